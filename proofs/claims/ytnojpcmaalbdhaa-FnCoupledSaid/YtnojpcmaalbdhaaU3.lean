/- Formations joined, parted, turned, coupled. -/
import Derived.Test.YtnojpcmaalbdhaaU2
namespace Go.Proofs.Ytnojpcmaalbdhaa.Pure
open Go.RowKit Go.Proofs.Ytnojpcmaalbdhaa.P Go.Proofs.YtnojpcmaalbdhaaW.PrintWords Go.Proofs.YtnojpcmaalbdhaaW.PrintLast
set_option linter.unusedSimpArgs false

theorem spec_join (a b : List S25) (hl : a.length + b.length ≤ 1000000000) : Ev (fun k => spec_l15Join.f k a b) (a ++ b) := by
  have key1 : ∀ i, i ≤ b.length → ∀ acc : List S25, acc.length ≤ a.length + i → Ev (fun k => spec_l15Join.l1 k b acc (i : Int)) (acc ++ b.drop i) := by
    refine down b.length (fun acc _ => ?_) (fun i hi ih acc ha => ?_)
    · rw [List.drop_of_length_le (Nat.le_refl _), List.append_nil]; exact ev_some (fun k => by simp [spec_l15Join.l1])
    · have := ih (acc ++ [b[i]]) (by simp; omega)
      rw [List.drop_eq_getElem_cons hi]
      rw [List.append_assoc] at this
      exact ev_at this (fun k => by simp [spec_l15Join.l1, hi, rd_unit b i hi, w64s hi (by omega), show acc.length < 4398046511104 by omega])
  have key0 : ∀ i, i ≤ a.length → ∀ acc : List S25, acc.length ≤ i → Ev (fun k => spec_l15Join.l0 k a b acc (i : Int)) (acc ++ a.drop i ++ b) := by
    refine down a.length (fun acc ha => ?_) (fun i hi ih acc ha => ?_)
    · rw [List.drop_of_length_le (Nat.le_refl _), List.append_nil]
      exact ev_at (by simpa using key1 0 (Nat.zero_le _) acc (by omega)) (fun k => by simp [spec_l15Join.l0])
    · have := ih (acc ++ [a[i]]) (by simp; omega)
      rw [List.drop_eq_getElem_cons hi]
      rw [List.append_assoc acc] at this
      exact ev_at this (fun k => by simp [spec_l15Join.l0, hi, rd_unit a i hi, w64s hi (by omega), show acc.length < 4398046511104 by omega])
  simpa [spec_l15Join.f] using key0 0 (Nat.zero_le _) [] (by simp)
theorem impl_join (a b : List S25) (hl : a.length + b.length ≤ 1000000000) : impl_joined.f a b = some (a ++ b) := by
  unfold impl_joined.f
  simp [show a.length < 4398046511104 by omega, show a.length + b.length < 4398046511104 by omega]

def partB (l : List S25) (n : Int) : List S25 × List S25 := if (formB l && inB n 0 l.length) = true then (l.take n.toNat, l.drop n.toNat) else ([], [])
theorem spec_part (l : List S25) (n : Int) : Ev (fun k => spec_Part.f k l n) (partB l n) := by
  unfold partB spec_Part.f
  refine Ev.bind (spec_form l) ?_
  simp only [l01In, Option.bind_some]
  cases h : formB l with
  | false => exact ev_some (fun k => by simp [spec_Part.j0])
  | true =>
    have hl := formB_len h
    cases hi : inB n 0 l.length with
    | false => exact ev_some (fun k => by simp [spec_Part.j0])
    | true =>
      have hb := inB_iff.1 hi
      have h1 := spec_join (l.take n.toNat) [] (by simp; omega)
      have h2 := spec_join (l.drop n.toNat) [] (by simp; omega)
      rw [List.append_nil] at h1 h2
      have : Ev (fun k => (spec_l15Join.f k (l.take n.toNat) []).bind fun t => (spec_l15Join.f k (l.drop n.toNat) []).bind fun t2 => some (t, t2)) (l.take n.toNat, l.drop n.toNat) := Ev.bind h1 (Ev.bind h2 (Ev.now _))
      exact ev_at this (fun k => by simp [spec_Part.j0, hb.1, hb.2])
theorem impl_part (l : List S25) (n : Int) : Ev (fun k => impl_Part.f k l n) (partB l n) := by
  unfold partB impl_Part.f
  simp only [impl_form, between, Option.bind_some]
  cases h : formB l with
  | false => exact ev_some (fun k => by simp [impl_Part.j0])
  | true =>
    have hl := formB_len h
    cases hi : inB n 0 l.length with
    | false => exact ev_some (fun k => by simp [impl_Part.j0])
    | true =>
      have hb := inB_iff.1 hi
      have h1 := impl_join (l.take n.toNat) [] (by simp; omega)
      have h2 := impl_join (l.drop n.toNat) [] (by simp; omega)
      rw [List.append_nil] at h1 h2
      exact ev_some (fun k => by simp [impl_Part.j0, hb.1, hb.2, h1, h2])

def flipU (u : S25) : S25 := ⟨u.f0, u.f1, u.f2, !u.f3⟩
def turned (l : List S25) : List S25 := (l.map flipU).reverse
def turnB (l : List S25) : List S25 := if formB l = true then turned l else []
theorem spec_turn (l : List S25) : Ev (fun k => spec_Turn.f k l) (turnB l) := by
  unfold turnB spec_Turn.f turned
  refine Ev.bind (spec_form l) ?_
  cases h : formB l with
  | false => exact Ev.now _
  | true =>
    have hl := formB_len h
    simp only [if_true]
    have key : ∀ m, m ≤ l.length → ∀ acc : List S25, acc.length ≤ 100 - m → Ev (fun k => spec_Turn.l0 k l acc ((m : Int) - 1)) (acc ++ ((l.take m).map flipU).reverse) := by
      intro m
      induction m with
      | zero => intro _ acc _; simpa using ev_some (fun k => by simp [spec_Turn.l0])
      | succ m ih =>
        intro hm acc ha
        have e : l.take (m + 1) = l.take m ++ [l[m]] := List.take_succ_eq_append_getElem (by omega)
        have := ih (by omega) (acc ++ [flipU l[m]]) (by simp; omega)
        rw [e, List.map_append, List.reverse_append]
        rw [List.append_assoc] at this
        refine ev_at this (fun k => ?_)
        have e2 : ((m + 1 : Nat) : Int) - 1 = (m : Int) := by omega
        have e3 : wrap64 ((m : Int) - 1) = (m : Int) - 1 := w64 (by omega) (by omega)
        simp [spec_Turn.l0, e2, e3, rd_unit l m (by omega), flipU, show m < l.length by omega, show acc.length < 4398046511104 by omega]
    have := key l.length (Nat.le_refl _) [] (by simp)
    rw [List.take_length] at this
    rw [w64 (by omega) (by omega)]
    simpa using this
theorem rev_key (n : Nat) (hn : n ≤ 1000000000) : ∀ d i j (x y : List S25), j + 1 - i ≤ d → x.length = n → y.length = n → j < n → (∀ p, p < n → y.getD p z25 = if i ≤ p ∧ p ≤ j then x.getD (i + j - p) z25 else x.getD p z25) → Ev (fun k => impl_Unit_53.l0 k x (i : Int) (j : Int)) y := by
  intro d
  induction d with
  | zero =>
    intro i j x y hd hx hy hj h
    have : y = x := by
      refine List.ext_getElem (by omega) (fun p h1 h2 => ?_)
      have := h p (by omega)
      rw [if_neg (by omega)] at this
      simpa [List.getD_eq_getElem?_getD, h1, h2] using this
    subst this
    exact ev_some (fun k => by simp [impl_Unit_53.l0, show ¬ i < j by omega])
  | succ d ih =>
    intro i j x y hd hx hy hj h
    by_cases hij : i < j
    · have e1 : rd_T25 x (i : Int) = x.getD i z25 := by simp [rd_T25]
      have e2 : rd_T25 x (j : Int) = x.getD j z25 := by simp [rd_T25]
      have e3 : wrap64 ((j : Int) - 1) = ((j - 1 : Nat) : Int) := by rw [w64 (by omega) (by omega)]; omega
      have e4 : wrap64 ((i : Int) + 1) = ((i + 1 : Nat) : Int) := w64s hij (by omega)
      have := ih (i + 1) (j - 1) ((x.set i (x.getD j z25)).set j (x.getD i z25)) y (by omega) (by simpa using hx) hy (by omega) (fun p hp => by
        have g : ∀ q, ((x.set i (x.getD j z25)).set j (x.getD i z25)).getD q z25 = if q = j then x.getD i z25 else if q = i then x.getD j z25 else x.getD q z25 := by
          intro q
          simp only [List.getD_eq_getElem?_getD, List.getElem?_set, List.length_set]
          by_cases h1 : j = q
          · subst h1; simp [show j < x.length by omega]
          · by_cases h2 : i = q
            · subst h2; simp [h1, show i < x.length by omega, Ne.symm h1]
            · simp [h1, h2, Ne.symm h1, Ne.symm h2]
        rw [h p hp, g, g]
        by_cases c1 : p = i
        · subst c1; rw [if_pos (by omega), if_neg (by omega), if_neg (by omega), if_pos rfl, show p + j - p = j by omega]
        · by_cases c2 : p = j
          · subst c2; rw [if_pos (by omega), if_neg (by omega), if_pos rfl, show i + p - p = i by omega]
          · by_cases c3 : i ≤ p ∧ p ≤ j
            · rw [if_pos c3, if_pos (by omega), if_neg (by omega), if_neg (by omega)]; congr 1; omega
            · rw [if_neg c3, if_neg (by omega), if_neg c2, if_neg c1])
      exact ev_at this (fun k => by
        simp only [impl_Unit_53.l0, Int.ofNat_lt.2 hij, if_true, Int.natCast_nonneg, Int.ofNat_lt.2 (show i < x.length by omega), Int.ofNat_lt.2 (show j < x.length by omega), e1, e2, e3, e4, Int.toNat_natCast])
    · have : y = x := by
        refine List.ext_getElem (by omega) (fun p h1 h2 => ?_)
        have := h p (by omega)
        have h3 : (if i ≤ p ∧ p ≤ j then x.getD (i + j - p) z25 else x.getD p z25) = x.getD p z25 := by
          split
          · congr 1; omega
          · rfl
        rw [h3] at this
        simpa [List.getD_eq_getElem?_getD, h1, h2] using this
      subst this
      exact ev_some (fun k => by simp [impl_Unit_53.l0, hij])
theorem impl_rev (l : List S25) (hl : l.length ≤ 1000000000) : Ev (fun k => impl_Unit_53.f k l) l.reverse := by
  unfold impl_Unit_53.f
  rw [w64 (by omega) (by omega)]
  by_cases h0 : l.length = 0
  · obtain rfl := List.eq_nil_of_length_eq_zero h0
    exact ev_some (fun k => by simp [impl_Unit_53.l0])
  · have := rev_key l.length hl l.length 0 (l.length - 1) l l.reverse (by omega) rfl (by simp) (by omega) (fun p hp => by
      rw [if_pos (by omega)]
      simp only [List.getD_eq_getElem?_getD]
      rw [List.getElem?_reverse hp]
      congr 2; omega)
    rw [show ((l.length - 1 : Nat) : Int) = (l.length : Int) - 1 by omega] at this
    simpa using this
theorem impl_turned_ (l : List S25) (hl : l.length ≤ 100000) : Ev (fun k => impl_turned.f k l) (turned l) := by
  unfold impl_turned.f turned
  have h1 := impl_join l [] (by simp; omega)
  rw [List.append_nil] at h1
  simp only [h1, Option.bind_some]
  refine Ev.bind (impl_rev l (by omega)) ?_
  have key : ∀ i, i ≤ l.length → ∀ acc : List S25, acc.length = l.length → Ev (fun k => impl_turned.l0 k acc l.length (i : Int)) (acc.take i ++ (acc.drop i).map flipU) := by
    refine down l.length (fun acc ha => ?_) (fun i hi ih acc ha => ?_)
    · rw [List.drop_of_length_le (by omega), List.take_of_length_le (by omega)]
      simpa using ev_some (fun k => by simp [impl_turned.l0])
    · have hi' : i < acc.length := by omega
      have := ih (acc.set i (flipU acc[i])) (by simpa using ha)
      rw [set_take acc i _ hi', List.drop_set_of_lt (by omega)] at this
      rw [List.drop_eq_getElem_cons hi', List.map_cons]
      rw [List.append_assoc] at this
      refine ev_at this (fun k => ?_)
      simp [impl_turned.l0, hi, ha, rd_unit acc i hi', w64s hi (by omega), flipU]
  have := key 0 (Nat.zero_le _) l.reverse (by simp)
  rw [List.take_zero, List.drop_zero, List.nil_append, List.map_reverse] at this
  simpa using this
theorem impl_turn (l : List S25) : Ev (fun k => impl_Turn.f k l) (turnB l) := by
  unfold turnB impl_Turn.f
  simp only [impl_form, Option.bind_some]
  cases h : formB l with
  | false => exact Ev.now _
  | true =>
    simp only [if_true]
    exact Ev.bind (impl_turned_ l (by have := formB_len h; omega)) (Ev.now _)

def coupleB (a b : List S25) : List S25 × Bool := if (runB a && runB b && runB (a ++ b)) = true then (a ++ b, true) else ([], false)
theorem runB_len {l : List S25} (h : runB l = true) : l.length ≤ 30 := by
  simp only [runB, Bool.and_eq_true] at h
  exact formB_len h.1.1
theorem spec_couple (a b : List S25) (ha : a.length ≤ 1000000000) (hb : b.length ≤ 1000000000) : Ev (fun k => spec_Couple.f k a b) (coupleB a b) := by
  unfold coupleB spec_Couple.f
  refine Ev.bind (spec_run a ha) ?_
  cases h1 : runB a with
  | false => simpa using Ev.now _
  | true =>
    simp only [if_true]
    refine Ev.bind (spec_run b hb) ?_
    cases h2 : runB b with
    | false => simpa using Ev.now _
    | true =>
      have := runB_len h1
      have := runB_len h2
      simp only [if_true]
      refine Ev.bind (spec_join a b (by omega)) (Ev.bind (spec_run (a ++ b) (by simp; omega)) ?_)
      cases h3 : runB (a ++ b) with
      | false => simpa using Ev.now _
      | true =>
        simp only [if_true]
        refine Ev.bind (spec_join a b (by omega)) ?_
        simpa using Ev.now _
theorem impl_couple (a b : List S25) : Ev (fun k => impl_Couple.f k a b) (coupleB a b) := by
  unfold coupleB impl_Couple.f
  refine Ev.bind (impl_run a) ?_
  cases h1 : runB a with
  | false => exact ev_some (fun k => by simp [impl_Couple.j0])
  | true =>
    simp only [if_true]
    refine Ev.bind (impl_run b) ?_
    cases h2 : runB b with
    | false => exact ev_some (fun k => by simp [impl_Couple.j0])
    | true =>
      have := runB_len h1
      have := runB_len h2
      have hj := impl_join a b (by omega)
      have : Ev (fun k => (impl_Runnable.f k (a ++ b)).bind fun t => if t = true then some (a ++ b, true) else some (([] : List S25), false)) (if runB (a ++ b) = true then (a ++ b, true) else ([], false)) := by
        refine Ev.bind (impl_run (a ++ b)) ?_
        cases runB (a ++ b)
        · simpa using Ev.now _
        · simpa using Ev.now _
      exact ev_at (by simpa using this) (fun k => by simp [impl_Couple.j0, hj])
end Go.Proofs.Ytnojpcmaalbdhaa.Pure

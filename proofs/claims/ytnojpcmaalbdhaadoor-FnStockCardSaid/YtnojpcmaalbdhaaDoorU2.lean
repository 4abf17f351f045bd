/- Formations: length, fitting, parting, turning: the program's. -/
import Derived.Test.YtnojpcmaalbdhaaDoorX1
namespace Go.Proofs.YtnojpcmaalbdhaaDoor.Pure
open Go.RowKit Go.Proofs.YtnojpcmaalbdhaaDoor.P Go.Proofs.YtnojpcmaalbdhaaDoorW.PrintWords Go.Proofs.YtnojpcmaalbdhaaDoorW.PrintLast
set_option linter.unusedSimpArgs false
set_option linter.unusedVariables false

theorem rd_unit (l : List S43) (i : Nat) (h : i < l.length) : rd_T43 l (i : Int) = l[i] := by simp [rd_T43, List.getD_eq_getElem?_getD, h]
theorem formB_len {l : List S43} (h : formB l = true) : l.length ≤ 30 := ((formB_iff l).1 h).1

def metres (l : List S43) : Int := l.foldl (fun a u => wrap64 (a + u.f2)) 0
def lenB (l : List S43) : Int := if formB l = true then metres l else -1
theorem impl_len (l : List S43) : Ev (fun k => impl_FormLen.f k l) (lenB l) := by
  unfold lenB metres impl_FormLen.f
  simp only [impl_form, Option.bind_some]
  by_cases h : formB l = true
  · simp only [h, if_true]
    have hl := formB_len h
    have key : ∀ i, i ≤ l.length → ∀ a, Ev (fun k => impl_FormLen.l0 k a l l.length (i : Int)) ((l.drop i).foldl (fun a u => wrap64 (a + u.f2)) a) := by
      refine down l.length (fun a => ?_) (fun i hi ih a => ?_)
      · rw [List.drop_of_length_le (Nat.le_refl _)]; exact ev_some (fun k => by simp [impl_FormLen.l0])
      · rw [List.drop_eq_getElem_cons hi, List.foldl_cons]
        exact ev_at (ih _) (fun k => by simp [impl_FormLen.l0, hi, rd_unit l i hi, w64s hi (by omega)])
    simpa using key 0 (Nat.zero_le _) 0
  · simp only [h, if_false]
    exact Ev.now _

def fitB (a b : S43) : Bool := a.f1 == b.f1 || (decide (a.f1 ≤ 3) && decide (b.f1 ≤ 3)) || (decide (a.f1 > 6) && decide (b.f1 > 6))
theorem impl_fit (a b : S43) : impl_Fitting.f a.f0 a.f1 a.f2 a.f3 b.f0 b.f1 b.f2 b.f3 = some (fitB a b) := by
  unfold impl_Fitting.f fitB
  by_cases h1 : a.f1 = b.f1 <;> by_cases h2 : a.f1 ≤ 3 <;> by_cases h3 : b.f1 ≤ 3 <;> by_cases h4 : a.f1 > 6 <;> simp [h1, h2, h3, h4] <;> omega
/-- All neighbours fit, from a place on. -/
def fitFrom (l : List S43) (i : Nat) : Bool := ((List.range l.length).drop i).all fun j => fitB (l.getD (j - 1) z43) (l.getD j z43)
def runB (l : List S43) : Bool := formB l && decide (0 < l.length) && fitFrom l 1
theorem fitFrom_step (l : List S43) (i : Nat) (h : i < l.length) : fitFrom l i = (fitB (l.getD (i - 1) z43) (l.getD i z43) && fitFrom l (i + 1)) := by
  unfold fitFrom
  rw [drop_getD 0 (List.range l.length) i (by simpa using h), List.all_cons]
  simp [List.getD_eq_getElem?_getD, h]
theorem fitFrom_end (l : List S43) (i : Nat) (h : l.length ≤ i) : fitFrom l i = true := by
  unfold fitFrom; rw [List.drop_of_length_le (by simpa using h)]; rfl
theorem prev {i n : Nat} (h1 : 1 ≤ i) (hi : i < n) (hn : n ≤ 1000000000) : wrap64 ((i : Int) - 1) = ((i - 1 : Nat) : Int) := by rw [w64 (by omega) (by omega)]; omega
theorem impl_run (l : List S43) : Ev (fun k => impl_Runnable.f k l) (runB l) := by
  unfold impl_Runnable.f runB
  simp only [impl_form, Option.bind_some]
  by_cases h : formB l = true
  · simp only [h, if_true, Bool.true_and]
    have hl := formB_len h
    by_cases h0 : l.length = 0
    · have : ((l.length : Int) == 0) = true := by simp [h0]
      simp only [this]
      rw [decide_eq_false (by omega), Bool.false_and]
      exact ev_some (fun k => by simp [impl_Runnable.j0])
    · have : ((l.length : Int) == 0) = false := by simp; exact fun hh => h0 (by simp [hh])
      simp only [this]
      rw [decide_eq_true (by omega), Bool.true_and]
      have key : ∀ i, i ≤ l.length → 1 ≤ i → Ev (fun k => impl_Runnable.l0 k l (i : Int)) (fitFrom l i) := by
        refine down l.length (fun _ => ?_) (fun i hi ih h1 => ?_)
        · rw [fitFrom_end l _ (Nat.le_refl _)]
          exact ev_some (fun k => by simp [impl_Runnable.l0])
        · rw [fitFrom_step l i hi]
          have e1 : rd_T43 l (i : Int) = l.getD i z43 := by simp [rd_T43]
          have e2 : rd_T43 l ((i - 1 : Nat) : Int) = l.getD (i - 1) z43 := by simp [rd_T43]
          have e3 : (((i - 1 : Nat) : Int)) < (l.length : Int) := by omega
          have step : ∀ k, impl_Runnable.l0 (k + 1) l (i : Int) = if fitB (l.getD (i - 1) z43) (l.getD i z43) = true then impl_Runnable.l0 k l ((i + 1 : Nat) : Int) else some false := by
            intro k
            simp only [impl_Runnable.l0, Int.ofNat_lt.2 hi, if_true, prev h1 hi (show l.length ≤ 1000000000 by omega), Int.natCast_nonneg, e3, e1, e2, impl_fit, Option.bind_some, w64s hi (show l.length ≤ 1000000000 by omega)]
          cases hf : fitB (l.getD (i - 1) z43) (l.getD i z43) with
          | true =>
            rw [Bool.true_and]
            exact ev_at (ih (by omega)) (fun k => by rw [step, hf, if_pos rfl])
          | false =>
            simp only [Bool.false_and]
            exact ev_some (fun k => by rw [step, hf]; simp)
      exact ev_at (key 1 (by omega) (Nat.le_refl _)) (fun k => by simp [impl_Runnable.j0])
  · simp only [h, if_false]
    simp only [Bool.false_and]
    exact ev_some (fun k => by simp [impl_Runnable.j0])
theorem impl_join (a b : List S43) (hl : a.length + b.length ≤ 1000000000) : impl_joined.f a b = some (a ++ b) := by
  unfold impl_joined.f
  simp [show a.length < 4398046511104 by omega, show a.length + b.length < 4398046511104 by omega]

def partB (l : List S43) (n : Int) : List S43 × List S43 := if (formB l && inB n 0 l.length) = true then (l.take n.toNat, l.drop n.toNat) else ([], [])
theorem impl_part (l : List S43) (n : Int) : Ev (fun k => impl_Part.f k l n) (partB l n) := by
  unfold partB impl_Part.f
  simp only [impl_form, between, Option.bind_some]
  cases h : formB l with
  | false => exact ev_some (fun k => by simp [impl_Part.j0])
  | true =>
    have hl := formB_len h
    cases hi : inB n 0 l.length with
    | false => exact ev_some (fun k => by simp [impl_Part.j0])
    | true =>
      have hb := inB_iff.1 hi
      have h1 := impl_join (l.take n.toNat) [] (by simp; omega)
      have h2 := impl_join (l.drop n.toNat) [] (by simp; omega)
      rw [List.append_nil] at h1 h2
      exact ev_some (fun k => by simp [impl_Part.j0, hb.1, hb.2, h1, h2])

def flipU (u : S43) : S43 := ⟨u.f0, u.f1, u.f2, !u.f3⟩
def turned (l : List S43) : List S43 := (l.map flipU).reverse
def turnB (l : List S43) : List S43 := if formB l = true then turned l else []
theorem rev_key (n : Nat) (hn : n ≤ 1000000000) : ∀ d i j (x y : List S43), j + 1 - i ≤ d → x.length = n → y.length = n → j < n → (∀ p, p < n → y.getD p z43 = if i ≤ p ∧ p ≤ j then x.getD (i + j - p) z43 else x.getD p z43) → Ev (fun k => impl_Unit_54.l0 k x (i : Int) (j : Int)) y := by
  intro d
  induction d with
  | zero =>
    intro i j x y hd hx hy hj h
    have : y = x := by
      refine List.ext_getElem (by omega) (fun p h1 h2 => ?_)
      have := h p (by omega)
      rw [if_neg (by omega)] at this
      simpa [List.getD_eq_getElem?_getD, h1, h2] using this
    subst this
    exact ev_some (fun k => by simp [impl_Unit_54.l0, show ¬ i < j by omega])
  | succ d ih =>
    intro i j x y hd hx hy hj h
    by_cases hij : i < j
    · have e1 : rd_T43 x (i : Int) = x.getD i z43 := by simp [rd_T43]
      have e2 : rd_T43 x (j : Int) = x.getD j z43 := by simp [rd_T43]
      have e3 : wrap64 ((j : Int) - 1) = ((j - 1 : Nat) : Int) := by rw [w64 (by omega) (by omega)]; omega
      have e4 : wrap64 ((i : Int) + 1) = ((i + 1 : Nat) : Int) := w64s hij (by omega)
      have := ih (i + 1) (j - 1) ((x.set i (x.getD j z43)).set j (x.getD i z43)) y (by omega) (by simpa using hx) hy (by omega) (fun p hp => by
        have g : ∀ q, ((x.set i (x.getD j z43)).set j (x.getD i z43)).getD q z43 = if q = j then x.getD i z43 else if q = i then x.getD j z43 else x.getD q z43 := by
          intro q
          simp only [List.getD_eq_getElem?_getD, List.getElem?_set, List.length_set]
          by_cases h1 : j = q
          · subst h1; simp [show j < x.length by omega]
          · by_cases h2 : i = q
            · subst h2; simp [h1, show i < x.length by omega, Ne.symm h1]
            · simp [h1, h2, Ne.symm h1, Ne.symm h2]
        rw [h p hp, g, g]
        by_cases c1 : p = i
        · subst c1; rw [if_pos (by omega), if_neg (by omega), if_neg (by omega), if_pos rfl, show p + j - p = j by omega]
        · by_cases c2 : p = j
          · subst c2; rw [if_pos (by omega), if_neg (by omega), if_pos rfl, show i + p - p = i by omega]
          · by_cases c3 : i ≤ p ∧ p ≤ j
            · rw [if_pos c3, if_pos (by omega), if_neg (by omega), if_neg (by omega)]; congr 1; omega
            · rw [if_neg c3, if_neg (by omega), if_neg c2, if_neg c1])
      exact ev_at this (fun k => by
        simp only [impl_Unit_54.l0, Int.ofNat_lt.2 hij, if_true, Int.natCast_nonneg, Int.ofNat_lt.2 (show i < x.length by omega), Int.ofNat_lt.2 (show j < x.length by omega), e1, e2, e3, e4, Int.toNat_natCast])
    · have : y = x := by
        refine List.ext_getElem (by omega) (fun p h1 h2 => ?_)
        have := h p (by omega)
        have h3 : (if i ≤ p ∧ p ≤ j then x.getD (i + j - p) z43 else x.getD p z43) = x.getD p z43 := by
          split
          · congr 1; omega
          · rfl
        rw [h3] at this
        simpa [List.getD_eq_getElem?_getD, h1, h2] using this
      subst this
      exact ev_some (fun k => by simp [impl_Unit_54.l0, hij])
theorem impl_rev (l : List S43) (hl : l.length ≤ 1000000000) : Ev (fun k => impl_Unit_54.f k l) l.reverse := by
  unfold impl_Unit_54.f
  rw [w64 (by omega) (by omega)]
  by_cases h0 : l.length = 0
  · obtain rfl := List.eq_nil_of_length_eq_zero h0
    exact ev_some (fun k => by simp [impl_Unit_54.l0])
  · have := rev_key l.length hl l.length 0 (l.length - 1) l l.reverse (by omega) rfl (by simp) (by omega) (fun p hp => by
      rw [if_pos (by omega)]
      simp only [List.getD_eq_getElem?_getD]
      rw [List.getElem?_reverse hp]
      congr 2; omega)
    rw [show ((l.length - 1 : Nat) : Int) = (l.length : Int) - 1 by omega] at this
    simpa using this
theorem impl_turned_ (l : List S43) (hl : l.length ≤ 100000) : Ev (fun k => impl_turned.f k l) (turned l) := by
  unfold impl_turned.f turned
  have h1 := impl_join l [] (by simp; omega)
  rw [List.append_nil] at h1
  simp only [h1, Option.bind_some]
  refine Ev.bind (impl_rev l (by omega)) ?_
  have key : ∀ i, i ≤ l.length → ∀ acc : List S43, acc.length = l.length → Ev (fun k => impl_turned.l0 k acc l.length (i : Int)) (acc.take i ++ (acc.drop i).map flipU) := by
    refine down l.length (fun acc ha => ?_) (fun i hi ih acc ha => ?_)
    · rw [List.drop_of_length_le (by omega), List.take_of_length_le (by omega)]
      simpa using ev_some (fun k => by simp [impl_turned.l0])
    · have hi' : i < acc.length := by omega
      have := ih (acc.set i (flipU acc[i])) (by simpa using ha)
      rw [set_take acc i _ hi', List.drop_set_of_lt (by omega)] at this
      rw [List.drop_eq_getElem_cons hi', List.map_cons]
      rw [List.append_assoc] at this
      refine ev_at this (fun k => ?_)
      simp [impl_turned.l0, hi, ha, rd_unit acc i hi', w64s hi (by omega), flipU]
  have := key 0 (Nat.zero_le _) l.reverse (by simp)
  rw [List.take_zero, List.drop_zero, List.nil_append, List.map_reverse] at this
  simpa using this
theorem impl_turn (l : List S43) : Ev (fun k => impl_Turn.f k l) (turnB l) := by
  unfold turnB impl_Turn.f
  simp only [impl_form, Option.bind_some]
  cases h : formB l with
  | false => exact Ev.now _
  | true =>
    simp only [if_true]
    exact Ev.bind (impl_turned_ l (by have := formB_len h; omega)) (Ev.now _)

theorem unitB_flip (u : S43) : unitB (flipU u) = unitB u := rfl
theorem formB_take {l : List S43} (h : formB l = true) (n : Nat) : formB (l.take n) = true := by
  obtain ⟨h1, h2, h3⟩ := (formB_iff l).1 h
  refine (formB_iff _).2 ⟨by simp; omega, fun u hu => h2 u (List.mem_of_mem_take hu), ?_⟩
  exact h3.sublist ((List.take_sublist n l).map _)
theorem formB_turned {l : List S43} (h : formB l = true) : formB (turned l) = true := by
  obtain ⟨h1, h2, h3⟩ := (formB_iff l).1 h
  unfold turned
  refine (formB_iff _).2 ⟨by simpa using h1, fun u hu => ?_, ?_⟩
  · simp only [List.mem_reverse, List.mem_map] at hu
    obtain ⟨v, hv, rfl⟩ := hu
    exact h2 v hv
  · rw [List.map_reverse, List.map_map]
    exact (List.reverse_perm _).nodup_iff.2 h3
theorem same_units (l : List S43) (h : l.length ≤ 1000000000) : Ev (fun k => laws_sameUnits.f k l l) true := by
  have key := ev_true l.length (fun k i => laws_sameUnits.l0 k l l i) (fun k => by simp [laws_sameUnits.l0]) (fun k i hi => by simp [laws_sameUnits.l0, w64s hi (by omega), hi])
  simpa [laws_sameUnits.f] using key
/-- The metres of a formation, without any wrap. -/
def metresSum (l : List S43) : Int := (l.map (·.f2)).sum
theorem metresSum_bound {l : List S43} (h : ∀ u ∈ l, unitB u = true) : 0 ≤ metresSum l ∧ metresSum l ≤ 200 * l.length := by
  induction l with
  | nil => simp [metresSum]
  | cons u l ih =>
    have h1 := ih (fun v hv => h v (by simp [hv]))
    have h2 := h u (by simp)
    simp only [unitB, Bool.and_eq_true, inB_iff] at h2
    simp only [metresSum, List.map_cons, List.sum_cons, List.length_cons] at h1 ⊢
    omega
theorem metres_eq {l : List S43} (h : ∀ u ∈ l, unitB u = true) (hl : l.length ≤ 1000) : metres l = metresSum l := by
  have key : ∀ (m : List S43) (a : Int), (∀ u ∈ m, unitB u = true) → m.length ≤ 1000 → 0 ≤ a → a ≤ 1000000000 - 200 * m.length → m.foldl (fun a u => wrap64 (a + u.f2)) a = a + metresSum m := by
    intro m
    induction m with
    | nil => intro a _ _ _ _; simp [metresSum]
    | cons u m ih =>
      intro a hu hm h0 h1
      have h2 := hu u (by simp)
      simp only [unitB, Bool.and_eq_true, inB_iff] at h2
      simp only [List.length_cons] at hm h1
      rw [List.foldl_cons, w64 (by omega) (by omega), ih _ (fun v hv => hu v (by simp [hv])) (by omega) (by omega) (by omega)]
      simp only [metresSum, List.map_cons, List.sum_cons]
      omega
  unfold metres
  rw [key l 0 h hl (by omega) (by omega), Int.zero_add]
end Go.Proofs.YtnojpcmaalbdhaaDoor.Pure

/- The test of legs: program and reference say the same. -/
import Derived.Test.YtdpjoblnjjkbfaaDoorV2
namespace Go.Proofs.YtdpjoblnjjkbfaaDoor.Pure
open Go.RowKit Go.Proofs.YtdpjoblnjjkbfaaDoor.P Go.Proofs.YtdpjoblnjjkbfaaDoorW.PrintWords Go.Proofs.YtdpjoblnjjkbfaaDoorW.PrintLast

/-- A loop that tests all, where a place's test leans on those ahead of it. -/
theorem ev_pre (n : Nat) (p : Nat → Bool) (g : Nat → Int → Option Bool) (h0 : Ev (fun k => g k n) true)
    (h1 : ∀ i : Nat, i < n → (∀ j, j < i → p j = true) → p i = true → ∀ r, Ev (fun k => g k ((i + 1 : Nat) : Int)) r → Ev (fun k => g k i) r)
    (h2 : ∀ i : Nat, i < n → (∀ j, j < i → p j = true) → p i = false → Ev (fun k => g k i) false) :
    Ev (fun k => g k 0) ((List.range n).all p) := by
  have key : ∀ d i, i + d = n → (∀ j, j < i → p j = true) → ∃ r, Ev (fun k => g k (i : Int)) r ∧ (r = true ↔ ∀ j, j < n → p j = true) := by
    intro d
    induction d with
    | zero =>
      intro i hi hp
      obtain rfl : i = n := by omega
      exact ⟨true, h0, fun _ => hp, fun _ => rfl⟩
    | succ d ih =>
      intro i hi hp
      cases c : p i with
      | false => exact ⟨false, h2 i (by omega) hp c, fun h => absurd h (by decide), fun h => by rw [h i (by omega)] at c; cases c⟩
      | true =>
        obtain ⟨r, hr, he⟩ := ih (i + 1) (by omega) (fun j hj => by
          by_cases e : j = i
          · rw [e]; exact c
          · exact hp j (by omega))
        exact ⟨r, h1 i (by omega) hp c r hr, he⟩
  obtain ⟨r, hr, he⟩ := key n 0 (by omega) (fun j hj => by omega)
  have : r = (List.range n).all p := by
    rw [Bool.eq_iff_iff, he, List.all_eq_true]
    exact ⟨fun h j hj => h j (List.mem_range.1 hj), fun h j hj => h j (List.mem_range.2 hj)⟩
  rw [← this]
  exact hr

/-- The call of a trip. -/
def cl (l : List S46) (t j : Int) : S43 := rd_T43 (rd_T46 l t).f1 j
/-- A leg's places are in the table. -/
def legIn (l : List S46) (x : S48) : Bool := inB x.f0 0 ((l.length : Int) - 1) && (decide (0 ≤ x.f1) && (decide (x.f1 < x.f2) && decide (x.f2 < ((rd_T46 l x.f0).f1.length : Int))))
def legJoin (l : List S46) (b x : S48) (ch : Int) : Bool := decide ((cl l b.f0 b.f2).f0 = (cl l x.f0 x.f1).f0) && !decide ((cl l x.f0 x.f1).f2 < (cl l b.f0 b.f2).f1 + ch)
def legB (l : List S46) (ls : List S48) (ch : Int) (i : Nat) : Bool := legIn l (ls.getD i z48) && (decide (i = 0) || legJoin l (ls.getD (i - 1) z48) (ls.getD i z48) ch)
def legsB (l : List S46) (ls : List S48) (ch : Int) : Bool := tableB l && (inB ch 0 60 && (decide (ls.length ≤ 5) && (List.range ls.length).all (legB l ls ch)))
theorem legIn_iff {l : List S46} {x : S48} : legIn l x = true ↔ (0 ≤ x.f0 ∧ x.f0 < l.length) ∧ 0 ≤ x.f1 ∧ x.f1 < x.f2 ∧ x.f2 < ((rd_T46 l x.f0).f1.length : Int) := by
  simp only [legIn, Bool.and_eq_true, inB_iff, decide_eq_true_eq]
  omega
theorem rd48 (ls : List S48) (i : Nat) : rd_T48 ls (i : Int) = ls.getD i z48 := rfl
theorem rd46_mem {l : List S46} {t : Int} (h0 : 0 ≤ t) (h1 : t < l.length) : rd_T46 l t ∈ l := getD_mem z46 l t.toNat (by omega)
theorem rd43_mem {l : List S43} {t : Int} (h0 : 0 ≤ t) (h1 : t < l.length) : rd_T43 l t ∈ l := getD_mem z43 l t.toNat (by omega)
theorem cl_ok {l : List S46} (h : tableB l = true) {t j : Int} (h0 : 0 ≤ t ∧ t < l.length) (h1 : 0 ≤ j ∧ j < ((rd_T46 l t).f1.length : Int)) : 0 ≤ (cl l t j).f0 ∧ (cl l t j).f0 < 30 ∧ 0 ≤ (cl l t j).f1 ∧ (cl l t j).f1 ≤ (cl l t j).f2 ∧ (cl l t j).f2 ≤ 100000 :=
  calls_ok (trip_of h (rd46_mem h0.1 h0.2)) (rd43_mem h1.1 h1.2)
theorem ends_at (l : List S46) (b : S48) (h : legIn l b = true) : impl_ends.f l b.f0 b.f1 b.f2 = some (cl l b.f0 b.f2).f0 := by
  rw [legIn_iff] at h
  unfold impl_ends.f
  rw [if_pos (by omega), if_pos (by omega), if_pos (by omega), if_pos (by omega)]; rfl
theorem arrives_at (l : List S46) (b : S48) (h : legIn l b = true) : impl_arrives.f l b.f0 b.f1 b.f2 = some (cl l b.f0 b.f2).f1 := by
  rw [legIn_iff] at h
  unfold impl_arrives.f
  rw [if_pos (by omega), if_pos (by omega), if_pos (by omega), if_pos (by omega)]; rfl
theorem leaves_at (l : List S46) (b : S48) (h : legIn l b = true) : impl_leaves.f l b.f0 b.f1 b.f2 = some (cl l b.f0 b.f1).f2 := by
  rw [legIn_iff] at h
  unfold impl_leaves.f
  rw [if_pos (by omega), if_pos (by omega), if_pos (by omega), if_pos (by omega)]; rfl

section
variable {l : List S46} {ls : List S48} {ch : Int}
theorem sum_w (hT : tableB l = true) (hc : 0 ≤ ch ∧ ch ≤ 60) {b : S48} (hb : legIn l b = true) : wrap64 ((cl l b.f0 b.f2).f1 + ch) = (cl l b.f0 b.f2).f1 + ch := by
  rw [legIn_iff] at hb
  have := cl_ok hT (t := b.f0) (j := b.f2) (by omega) (by omega)
  rw [w64 (by omega) (by omega)]
theorem impl_leg (hF : Fit l) (i : Nat) (hi : i < ls.length) (k : Nat) :
    impl_LegsOk.l0 (k + 1) l ls ch ls ls.length i = impl_LegsOk.j2 k l ls ch i ls ls.length i (!legIn l (ls.getD i z48)) (ls.getD i z48).f0 (ls.getD i z48).f1 (ls.getD i z48).f2 := by
  have h1 := hF.1
  simp only [impl_LegsOk.l0, between, Option.bind_some]
  rw [rd48]
  rw [if_pos (by omega), if_pos (by omega), if_pos (by omega), w64 (by omega) (by omega)]
  unfold legIn
  cases c : inB (ls.getD i z48).f0 0 ((l.length : Int) - 1) with
  | false => simp
  | true =>
    have := inB_iff.1 c
    by_cases c1 : (ls.getD i z48).f1 < 0
    · rw [if_pos rfl, if_pos c1, decide_eq_false (show ¬ 0 ≤ (ls.getD i z48).f1 by omega)]; simp
    · by_cases c2 : (ls.getD i z48).f1 ≥ (ls.getD i z48).f2
      · rw [if_pos rfl, if_neg c1, if_pos c2, decide_eq_false (show ¬ (ls.getD i z48).f1 < (ls.getD i z48).f2 by omega)]; simp
      · rw [if_pos rfl, if_neg c1, if_neg c2, if_pos (by omega), if_pos (by omega), decide_eq_true (show 0 ≤ (ls.getD i z48).f1 by omega), decide_eq_true (show (ls.getD i z48).f1 < (ls.getD i z48).f2 by omega)]
        congr 1
        by_cases c3 : (ls.getD i z48).f2 < ((rd_T46 l (ls.getD i z48).f0).f1.length : Int)
        · rw [decide_eq_true c3, decide_eq_false (by omega)]; rfl
        · rw [decide_eq_false c3, decide_eq_true (by omega)]; rfl
theorem spec_leg (hF : Fit l) (i : Nat) (hi : i < ls.length) (k : Nat) :
    spec_LegsOk.l0 (k + 1) l ls ch i = spec_LegsOk.j2 k l ls ch i (!legIn l (ls.getD i z48)) (ls.getD i z48).f0 (ls.getD i z48).f1 (ls.getD i z48).f2 := by
  have h1 := hF.1
  simp only [spec_LegsOk.l0, l01In, Option.bind_some]
  rw [rd48]
  rw [if_pos (by omega), if_pos (by omega), w64 (by omega) (by omega)]
  unfold legIn
  cases c : inB (ls.getD i z48).f0 0 ((l.length : Int) - 1) with
  | false => simp
  | true =>
    have := inB_iff.1 c
    have hm := (hF.2 _ (rd46_mem (t := (ls.getD i z48).f0) (by omega) (by omega))).2
    rw [if_pos rfl, if_pos (by omega), if_pos (by omega), w64 (x := ((rd_T46 l (ls.getD i z48).f0).f1.length : Int) - 1) (by omega) (by omega)]
    cases c2 : inB (ls.getD i z48).f2 0 (((rd_T46 l (ls.getD i z48).f0).f1.length : Int) - 1) with
    | false =>
      rw [if_neg (by decide)]
      congr 1
      by_cases c3 : (ls.getD i z48).f2 < ((rd_T46 l (ls.getD i z48).f0).f1.length : Int)
      · have : ¬ (0 ≤ (ls.getD i z48).f2 ∧ (ls.getD i z48).f2 ≤ ((rd_T46 l (ls.getD i z48).f0).f1.length : Int) - 1) := fun h => by rw [inB_iff.2 h] at c2; cases c2
        by_cases c4 : 0 ≤ (ls.getD i z48).f1
        · rw [decide_eq_true c4, decide_eq_false (show ¬ (ls.getD i z48).f1 < (ls.getD i z48).f2 by omega)]; rfl
        · rw [decide_eq_false c4]; rfl
      · rw [decide_eq_false c3]; simp
    | true =>
      have := inB_iff.1 c2
      rw [if_pos rfl, w64 (by omega) (by omega), decide_eq_true (show (ls.getD i z48).f2 < ((rd_T46 l (ls.getD i z48).f0).f1.length : Int) by omega)]
      congr 1
      unfold inB
      by_cases c4 : 0 ≤ (ls.getD i z48).f1
      · by_cases c5 : (ls.getD i z48).f1 < (ls.getD i z48).f2
        · rw [decide_eq_true c4, decide_eq_true c5, decide_eq_true (show (ls.getD i z48).f1 ≤ (ls.getD i z48).f2 - 1 by omega)]; rfl
        · rw [decide_eq_true c4, decide_eq_false c5, decide_eq_false (show ¬ (ls.getD i z48).f1 ≤ (ls.getD i z48).f2 - 1 by omega)]; rfl
      · rw [decide_eq_false c4]; rfl
theorem impl_join (hT : tableB l = true) (hc : 0 ≤ ch ∧ ch ≤ 60) (hn : ls.length ≤ 5) (i : Nat) (hi : i < ls.length) (hx : legIn l (ls.getD i z48) = true) (hb : i ≠ 0 → legIn l (ls.getD (i - 1) z48) = true) (k : Nat) :
    impl_LegsOk.j2 (k + 1) l ls ch i ls ls.length i false (ls.getD i z48).f0 (ls.getD i z48).f1 (ls.getD i z48).f2 = if (decide (i = 0) || legJoin l (ls.getD (i - 1) z48) (ls.getD i z48) ch) = true then impl_LegsOk.l0 k l ls ch ls ls.length ((i + 1 : Nat) : Int) else some false := by
  simp only [impl_LegsOk.j2]
  rw [if_neg (by decide)]
  by_cases c : i = 0
  · subst c
    rw [if_pos (show ((0 : Nat) : Int) = 0 by rfl), w64s hi (by omega), if_pos (by simp)]
  · have hb := hb c
    have e : wrap64 ((i : Int) - 1) = ((i - 1 : Nat) : Int) := by rw [w64 (by omega) (by omega)]; omega
    rw [if_neg (by omega), e, rd48]
    have hx' := legIn_iff.1 hx
    rw [if_pos (by omega), if_pos (by omega), if_pos (by omega), if_pos (by omega), if_pos (by omega), if_pos (by omega), ends_at _ _ hb, arrives_at _ _ hb, leaves_at _ _ hx, Option.bind_some, Option.bind_some, Option.bind_some, sum_w hT hc hb, decide_eq_false c, Bool.false_or, w64s hi (by omega)]
    unfold legJoin
    show (if (cl l (ls.getD i z48).f0 (ls.getD i z48).f1).f0 = _ then _ else _) = _
    by_cases c1 : (cl l (ls.getD (i - 1) z48).f0 (ls.getD (i - 1) z48).f2).f0 = (cl l (ls.getD i z48).f0 (ls.getD i z48).f1).f0
    · rw [if_pos c1.symm, decide_eq_true c1]
      by_cases c2 : (cl l (ls.getD i z48).f0 (ls.getD i z48).f1).f2 < (cl l (ls.getD (i - 1) z48).f0 (ls.getD (i - 1) z48).f2).f1 + ch
      · rw [if_pos c2, decide_eq_true c2]; rfl
      · rw [if_neg c2, decide_eq_false c2]; rfl
    · rw [if_neg (fun h => c1 h.symm), decide_eq_false c1]; rfl
theorem spec_join (hT : tableB l = true) (hc : 0 ≤ ch ∧ ch ≤ 60) (hn : ls.length ≤ 5) (i : Nat) (hi : i < ls.length) (hx : legIn l (ls.getD i z48) = true) (hb : i ≠ 0 → legIn l (ls.getD (i - 1) z48) = true) (k : Nat) :
    spec_LegsOk.j2 (k + 1) l ls ch i false (ls.getD i z48).f0 (ls.getD i z48).f1 (ls.getD i z48).f2 = if (decide (i = 0) || legJoin l (ls.getD (i - 1) z48) (ls.getD i z48) ch) = true then spec_LegsOk.l0 k l ls ch ((i + 1 : Nat) : Int) else some false := by
  simp only [spec_LegsOk.j2]
  rw [if_neg (by decide)]
  by_cases c : i = 0
  · subst c
    rw [if_neg (show ¬ ((0 : Nat) : Int) > 0 by decide), w64s hi (by omega), if_pos (by simp)]
  · have hb := hb c
    have e : wrap64 ((i : Int) - 1) = ((i - 1 : Nat) : Int) := by rw [w64 (by omega) (by omega)]; omega
    rw [if_pos (by omega), e, rd48]
    have hx' := legIn_iff.1 hx
    have hb' := legIn_iff.1 hb
    have hs := sum_w hT hc hb
    unfold cl at hs
    rw [if_pos (by omega), if_pos (by omega), if_pos (by omega), if_pos (by omega), if_pos (by omega), if_pos (by omega), if_pos (by omega), if_pos (by omega), if_pos (by omega), if_pos (by omega), hs, decide_eq_false c, Bool.false_or, w64s hi (by omega)]
    unfold legJoin
    show (if (cl l (ls.getD (i - 1) z48).f0 (ls.getD (i - 1) z48).f2).f0 = (cl l (ls.getD i z48).f0 (ls.getD i z48).f1).f0 then (if (cl l (ls.getD i z48).f0 (ls.getD i z48).f1).f2 < (cl l (ls.getD (i - 1) z48).f0 (ls.getD (i - 1) z48).f2).f1 + ch then _ else _) else _) = _
    by_cases c1 : (cl l (ls.getD (i - 1) z48).f0 (ls.getD (i - 1) z48).f2).f0 = (cl l (ls.getD i z48).f0 (ls.getD i z48).f1).f0
    · rw [if_pos c1, decide_eq_true c1]
      by_cases c2 : (cl l (ls.getD i z48).f0 (ls.getD i z48).f1).f2 < (cl l (ls.getD (i - 1) z48).f0 (ls.getD (i - 1) z48).f2).f1 + ch
      · rw [if_pos c2, decide_eq_true c2]; rfl
      · rw [if_neg c2, decide_eq_false c2]; rfl
    · rw [if_neg c1, decide_eq_false c1]; rfl
end
theorem legB_in {l : List S46} {ls : List S48} {ch : Int} {i : Nat} (h : legB l ls ch i = true) : legIn l (ls.getD i z48) = true := (Bool.and_eq_true_iff.1 h).1
theorem impl_legs (l : List S46) (hF : Fit l) (ls : List S48) (ch : Int) : Ev (fun k => impl_LegsOk.f k l ls ch) (legsB l ls ch) := by
  refine Ev.bind (impl_table l hF) ?_
  unfold legsB
  cases hT : tableB l with
  | false => exact ev_some (fun k => by simp [impl_LegsOk.j0])
  | true =>
    simp only [impl_changeOk.f, between, Option.bind_some, if_true, Bool.true_and]
    cases hc : inB ch 0 60 with
    | false => exact ev_some (fun k => by simp [impl_LegsOk.j0])
    | true =>
      simp only [if_true, Bool.true_and]
      by_cases hn : (ls.length : Int) > 5
      · rw [decide_eq_true hn, decide_eq_false (show ¬ ls.length ≤ 5 by omega)]
        exact ev_some (fun k => by simp [impl_LegsOk.j0])
      · rw [decide_eq_false hn, decide_eq_true (show ls.length ≤ 5 by omega), Bool.true_and]
        refine ev_at (f := fun k => impl_LegsOk.l0 k l ls ch ls ls.length 0) ?_ (fun k => by simp [impl_LegsOk.j0])
        have hc' := inB_iff.1 hc
        refine ev_pre ls.length (legB l ls ch) (fun k i => impl_LegsOk.l0 k l ls ch ls ls.length i) (ev_some (fun k => by simp [impl_LegsOk.l0])) ?_ ?_
        · intro i hi hp hpi r hr
          have h1 := legB_in hpi
          have h2 : (decide (i = 0) || legJoin l (ls.getD (i - 1) z48) (ls.getD i z48) ch) = true := (Bool.and_eq_true_iff.1 hpi).2
          refine ev_at (f := fun k => impl_LegsOk.j2 k l ls ch i ls ls.length i false (ls.getD i z48).f0 (ls.getD i z48).f1 (ls.getD i z48).f2) ?_ (fun k => by rw [impl_leg hF i hi k, h1]; rfl)
          refine ev_at hr (fun k => ?_)
          rw [impl_join hT hc' (by omega) i hi h1 (fun c => legB_in (hp (i - 1) (by omega))) k, if_pos h2]
        · intro i hi hp hpi
          cases h1 : legIn l (ls.getD i z48) with
          | false =>
            refine ev_at (f := fun k => impl_LegsOk.j2 k l ls ch i ls ls.length i true (ls.getD i z48).f0 (ls.getD i z48).f1 (ls.getD i z48).f2) ?_ (fun k => by rw [impl_leg hF i hi k, h1]; rfl)
            exact ev_some (fun k => by simp [impl_LegsOk.j2])
          | true =>
            have h2 : ¬ (decide (i = 0) || legJoin l (ls.getD (i - 1) z48) (ls.getD i z48) ch) = true := fun h => by
              unfold legB at hpi; rw [h1, h] at hpi; cases hpi
            refine ev_at (f := fun k => impl_LegsOk.j2 k l ls ch i ls ls.length i false (ls.getD i z48).f0 (ls.getD i z48).f1 (ls.getD i z48).f2) ?_ (fun k => by rw [impl_leg hF i hi k, h1]; rfl)
            refine ev_some (fun k => ?_)
            rw [impl_join hT hc' (by omega) i hi h1 (fun c => legB_in (hp (i - 1) (by omega))) k, if_neg h2]
theorem spec_legs (l : List S46) (hF : Fit l) (ls : List S48) (ch : Int) : Ev (fun k => spec_LegsOk.f k l ls ch) (legsB l ls ch) := by
  refine Ev.bind (spec_table l hF) ?_
  unfold legsB
  cases hT : tableB l with
  | false => exact ev_some (fun k => by simp [spec_LegsOk.j0])
  | true =>
    simp only [spec_l12Change.f, l01In, Option.bind_some, if_true, Bool.true_and]
    cases hc : inB ch 0 60 with
    | false => exact ev_some (fun k => by simp [spec_LegsOk.j0])
    | true =>
      simp only [if_true, Bool.true_and]
      by_cases hn : (ls.length : Int) > 5
      · rw [decide_eq_true hn, decide_eq_false (show ¬ ls.length ≤ 5 by omega)]
        exact ev_some (fun k => by simp [spec_LegsOk.j0])
      · rw [decide_eq_false hn, decide_eq_true (show ls.length ≤ 5 by omega), Bool.true_and]
        refine ev_at (f := fun k => spec_LegsOk.l0 k l ls ch 0) ?_ (fun k => by simp [spec_LegsOk.j0])
        have hc' := inB_iff.1 hc
        refine ev_pre ls.length (legB l ls ch) (fun k i => spec_LegsOk.l0 k l ls ch i) (ev_some (fun k => by simp [spec_LegsOk.l0])) ?_ ?_
        · intro i hi hp hpi r hr
          have h1 := legB_in hpi
          have h2 : (decide (i = 0) || legJoin l (ls.getD (i - 1) z48) (ls.getD i z48) ch) = true := (Bool.and_eq_true_iff.1 hpi).2
          refine ev_at (f := fun k => spec_LegsOk.j2 k l ls ch i false (ls.getD i z48).f0 (ls.getD i z48).f1 (ls.getD i z48).f2) ?_ (fun k => by rw [spec_leg hF i hi k, h1]; rfl)
          refine ev_at hr (fun k => ?_)
          rw [spec_join hT hc' (by omega) i hi h1 (fun c => legB_in (hp (i - 1) (by omega))) k, if_pos h2]
        · intro i hi hp hpi
          cases h1 : legIn l (ls.getD i z48) with
          | false =>
            refine ev_at (f := fun k => spec_LegsOk.j2 k l ls ch i true (ls.getD i z48).f0 (ls.getD i z48).f1 (ls.getD i z48).f2) ?_ (fun k => by rw [spec_leg hF i hi k, h1]; rfl)
            exact ev_some (fun k => by simp [spec_LegsOk.j2])
          | true =>
            have h2 : ¬ (decide (i = 0) || legJoin l (ls.getD (i - 1) z48) (ls.getD i z48) ch) = true := fun h => by
              unfold legB at hpi; rw [h1, h] at hpi; cases hpi
            refine ev_at (f := fun k => spec_LegsOk.j2 k l ls ch i false (ls.getD i z48).f0 (ls.getD i z48).f1 (ls.getD i z48).f2) ?_ (fun k => by rw [spec_leg hF i hi k, h1]; rfl)
            refine ev_some (fun k => ?_)
            rw [spec_join hT hc' (by omega) i hi h1 (fun c => legB_in (hp (i - 1) (by omega))) k, if_neg h2]
end Go.Proofs.YtdpjoblnjjkbfaaDoor.Pure

/- The code of a duty, and its wage. -/
import Derived.Test.YtnamdbnnijfniaaR2
namespace Go.Proofs.Ytnamdbnnijfniaa.Pure
open Go.RowKit Go.Proofs.Ytnamdbnnijfniaa.P Go.Proofs.YtnamdbnnijfniaaW.PrintWords Go.Proofs.YtnamdbnnijfniaaW.PrintLast

/-- Place i follows the one ahead of it. -/
def follows1 (n : List S52) (l : List Int) (i : Nat) : Bool := decide ((tk n (l.getD (i - 1) 0)).f1 = (tk n (l.getD i 0)).f0) && decide ((tk n (l.getD (i - 1) 0)).f3 ≤ (tk n (l.getD i 0)).f2)
def ordFrom (n : List S52) (l : List Int) : Nat → Bool
  | 0 => true
  | d + 1 => follows1 n l (l.length - (d + 1)) && ordFrom n l d
def ordB (n : List S52) (l : List Int) : Bool := ordFrom n l (l.length - 1)
def spreadV (n : List S52) (l : List Int) : Int := (tk n (l.getD (l.length - 1) 0)).f3 - (tk n (l.getD 0 0)).f2
def codeV0 (n : List S52) (l : List Int) (a b c d : Int) : Int :=
  if ordB n l then if spreadV n l > a then 3 else if drivenV0 n l > b then 4 else if stretchedV0 n l c > d then 5 else 0 else 2

theorem ev_order {n : List S52} {l : List Int} (g : Nat → Int → Option Int) (r : Int) (hl : 1 ≤ l.length) (h0 : Ev (fun k => g k l.length) r)
    (h1 : ∀ k (i : Nat), 1 ≤ i → i < l.length → g (k + 1) i = if follows1 n l i = true then g k ((i + 1 : Nat) : Int) else some 2) : Ev (fun k => g k 1) (if ordB n l then r else 2) := by
  have key : ∀ i, i ≤ l.length → 1 ≤ i → Ev (fun k => g k (i : Int)) (if ordFrom n l (l.length - i) then r else 2) := by
    refine down l.length (fun _ => ?_) (fun i hi ih hi1 => ?_)
    · rw [Nat.sub_self]
      exact h0
    · obtain ⟨d, hd⟩ : ∃ d, l.length - i = d + 1 := ⟨l.length - i - 1, by omega⟩
      rw [hd, ordFrom, show l.length - (d + 1) = i by omega]
      have h2 := ih (by omega)
      rw [show l.length - (i + 1) = d by omega] at h2
      cases hf : follows1 n l i
      · simp only [Bool.false_and, Bool.false_eq_true, if_false]
        exact ev_some (fun k => by rw [h1 k i hi1 hi, hf]; rfl)
      · simp only [Bool.true_and]
        exact ev_at h2 (fun k => by rw [h1 k i hi1 hi, hf]; rfl)
  exact key 1 hl (Nat.le_refl 1)

section
variable {n : List S52} {l : List Int}
/-- The round of both loops. -/
theorem order_round (h : dutyB n l = true) {α : Type} (i : Nat) (h1 : 1 ≤ i) (hi : i < l.length) (go : Int → Option α) (two : Option α) :
    (if (i : Int) < (l.length : Int) then (if 0 ≤ (wrap64 ((i : Int) - 1)) then (if (wrap64 ((i : Int) - 1)) < (l.length : Int) then (if 0 ≤ (rd l (wrap64 ((i : Int) - 1))) then (if (rd l (wrap64 ((i : Int) - 1))) < (n.length : Int) then (if 0 ≤ (i : Int) then (if 0 ≤ (rd l i) then (if (rd l i) < (n.length : Int) then (if ((rd_T52 n (rd l (wrap64 ((i : Int) - 1)))).f1) = ((rd_T52 n (rd l i)).f0) then (if ((rd_T52 n (rd l i)).f2) < ((rd_T52 n (rd l (wrap64 ((i : Int) - 1)))).f3) then two else (go (wrap64 ((i : Int) + 1)))) else two) else (none)) else (none)) else (none)) else (none)) else (none)) else (none)) else (none)) else none)
      = if follows1 n l i = true then go ((i + 1 : Nat) : Int) else two := by
  have hl := (dutyB_parts h).1
  have f1 : (i : Int) < l.length := by omega
  have f2 : (0 : Int) ≤ i := by omega
  have f4 : (0 : Int) ≤ ((i - 1 : Nat) : Int) := by omega
  have f5 : ((i - 1 : Nat) : Int) < l.length := by omega
  have hi1 : i - 1 < l.length := by omega
  have ew : wrap64 ((i : Int) - 1) = ((i - 1 : Nat) : Int) := by rw [w64 (by omega) (by omega)]; omega
  have hw := w64s hi (by omega)
  obtain ⟨e1, hx1, _⟩ := at_duty h i hi
  obtain ⟨e2, hx2, _⟩ := at_duty h (i - 1) hi1
  rw [ew, hw, e1, e2, if_pos f1, if_pos f4, if_pos f5, if_pos hx2.1, if_pos hx2.2, if_pos f2, if_pos hx1.1, if_pos hx1.2]
  unfold follows1 tk
  by_cases ha : (rd_T52 n (l.getD (i - 1) 0)).f1 = (rd_T52 n (l.getD i 0)).f0
  · by_cases hb : (rd_T52 n (l.getD i 0)).f2 < (rd_T52 n (l.getD (i - 1) 0)).f3
    · rw [if_pos ha, if_pos hb, decide_eq_true ha, decide_eq_false (Int.not_le.2 hb)]
      rfl
    · rw [if_pos ha, if_neg hb, decide_eq_true ha, decide_eq_true (Int.not_lt.1 hb)]
      rfl
  · rw [if_neg ha, decide_eq_false ha]
    rfl

theorem spread_at (h : dutyB n l = true) : (rd l (wrap64 ((l.length : Int) - 1)) = l.getD (l.length - 1) 0 ∧ 0 ≤ wrap64 ((l.length : Int) - 1) ∧ wrap64 ((l.length : Int) - 1) < l.length) ∧ (rd l 0 = l.getD 0 0 ∧ (0 : Int) < l.length) ∧
    (0 ≤ l.getD (l.length - 1) 0 ∧ l.getD (l.length - 1) 0 < n.length) ∧ (0 ≤ l.getD 0 0 ∧ l.getD 0 0 < n.length) ∧ wrap64 ((tk n (l.getD (l.length - 1) 0)).f3 - (tk n (l.getD 0 0)).f2) = spreadV n l := by
  have hl := (dutyB_parts h).1
  obtain ⟨_, hx1, ht1⟩ := at_duty h (l.length - 1) (by omega)
  obtain ⟨_, hx2, ht2⟩ := at_duty h 0 (by omega)
  have ew : wrap64 ((l.length : Int) - 1) = ((l.length - 1 : Nat) : Int) := by rw [w64 (by omega) (by omega)]; omega
  refine ⟨⟨by rw [ew]; simp [rd], by rw [ew]; omega, by rw [ew]; omega⟩, ⟨by simp [rd], by omega⟩, hx1, hx2, ?_⟩
  unfold spreadV
  exact w64 (by omega) (by omega)

theorem impl_code_low (h : dutyB n l = true) (a b c d : Int) : Ev (fun k => impl_dutyCode.f k n l a b c d) (codeV0 n l a b c d) := by
  have hl := (dutyB_parts h).1
  refine ev_order (fun k i => impl_dutyCode.l0 k n l i a b c d) _ hl.1 ?_ (fun k i h1 hi => ?_)
  · obtain ⟨⟨e1, f1, f2⟩, ⟨e2, f3⟩, hx1, hx2, es⟩ := spread_at h
    have hs : impl_spread.f n l = some (spreadV n l) := by
      unfold impl_spread.f
      unfold tk at es
      rw [e1, e2, if_pos f1, if_pos f2, if_pos hx1.1, if_pos hx1.2, if_pos f3, if_pos hx2.1, if_pos hx2.2, es]
    refine ev_at (f := fun k => (impl_spread.f n l).bind fun t => if t > a then some 3 else (impl_driven.f k n l).bind fun u => if u > b then some 4 else (impl_stretched.f k n l c).bind fun v => if v > d then some 5 else some 0) ?_ (fun k => by simp [impl_dutyCode.l0])
    rw [hs]
    simp only [Option.bind_some]
    by_cases h3 : spreadV n l > a
    · simp only [h3, if_true]; exact Ev.now _
    · simp only [h3, if_false]
      refine Ev.bind (impl_driven_low h) ?_
      by_cases h4 : drivenV0 n l > b
      · simp only [h4, if_true]; exact Ev.now _
      · simp only [h4, if_false]
        refine Ev.bind (impl_stretched_f c h) ?_
        by_cases h5 : stretchedV0 n l c > d
        · simp only [h5, if_true]; exact Ev.now _
        · simp only [h5, if_false]; exact Ev.now _
  · have := order_round h i h1 hi (fun x => impl_dutyCode.l0 k n l x a b c d) (some 2)
    rw [if_pos (by omega)] at this
    simp only [impl_dutyCode.l0]
    rw [if_pos (by omega)]
    exact this

theorem spec_code_low (h : dutyB n l = true) (a b c d : Int) (hc : inB c 1 1440 = true) (hn : n.length ≤ 1048576) (hl2 : l.length ≤ 1048576) : Ev (fun k => spec_DutyCode.l0 k n l 1 a b c d) (codeV0 n l a b c d) := by
  have hl := (dutyB_parts h).1
  refine ev_order (fun k i => spec_DutyCode.l0 k n l i a b c d) _ hl.1 ?_ (fun k i h1 hi => ?_)
  · obtain ⟨⟨e1, f1, f2⟩, ⟨e2, f3⟩, hx1, hx2, es⟩ := spread_at h
    have hdr : Ev (fun k => spec_Driven.f k n l) (drivenV0 n l) := by have := spec_driven_all n l hn hl2; rwa [drivenV, h] at this
    have hst : Ev (fun k => spec_Stretched.f k n l c) (stretchedV0 n l c) := by have := spec_stretched_all n l c hn hl2; rwa [stretchedV, h, hc] at this
    refine ev_at (f := fun k => if spreadV n l > a then some 3 else (spec_Driven.f k n l).bind fun u => if u > b then some 4 else (spec_Stretched.f k n l c).bind fun v => if v > d then some 5 else some 0) ?_ (fun k => ?_)
    · by_cases h3 : spreadV n l > a
      · simp only [h3, if_true]; exact Ev.now _
      · simp only [h3, if_false]
        refine Ev.bind hdr ?_
        by_cases h4 : drivenV0 n l > b
        · simp only [h4, if_true]; exact Ev.now _
        · simp only [h4, if_false]
          refine Ev.bind hst ?_
          by_cases h5 : stretchedV0 n l c > d
          · simp only [h5, if_true]; exact Ev.now _
          · simp only [h5, if_false]; exact Ev.now _
    · unfold tk at es
      simp only [spec_DutyCode.l0]
      rw [if_neg (Int.lt_irrefl _), e1, e2, if_pos f1, if_pos f2, if_pos hx1.1, if_pos hx1.2, if_pos f3, if_pos hx2.1, if_pos hx2.2, es]
  · have := order_round h i h1 hi (fun x => spec_DutyCode.l0 k n l x a b c d) (some 2)
    rw [if_pos (by omega)] at this
    simp only [spec_DutyCode.l0]
    rw [if_pos (by omega)]
    exact this
end

def codeV (n : List S52) (l : List Int) (a b c d : Int) : Int := if dutyB n l && ruleB a b c d then codeV0 n l a b c d else 1
theorem ruleB_rest {a b c d : Int} (h : ruleB a b c d = true) : inB c 1 1440 = true := by
  simp only [ruleB, Bool.and_eq_true] at h
  exact h.1.2
theorem impl_code_all (n : List S52) (l : List Int) (a b c d : Int) (hn : n.length ≤ 1048576) (h : l.length ≤ 1048576) : Ev (fun k => impl_DutyCode.f k n l a b c d) (codeV n l a b c d) := by
  unfold impl_DutyCode.f codeV
  refine Ev.bind (impl_duty n l hn h) ?_
  cases hd : dutyB n l
  · simpa using Ev.now _
  · simp only [if_true, impl_rule, Option.bind_some, Bool.true_and]
    cases ruleB a b c d
    · simpa using Ev.now _
    · simp only [if_true]
      exact Ev.bind (impl_code_low hd a b c d) (Ev.now _)
theorem spec_code_all (n : List S52) (l : List Int) (a b c d : Int) (hn : n.length ≤ 1048576) (h : l.length ≤ 1048576) : Ev (fun k => spec_DutyCode.f k n l a b c d) (codeV n l a b c d) := by
  unfold spec_DutyCode.f codeV
  have j2 : Ev (fun k => spec_DutyCode.j0 k n l true a b c d) 1 := ev_some (fun k => by simp [spec_DutyCode.j0])
  refine Ev.bind (spec_duty n l hn h) ?_
  cases hd : dutyB n l
  · simpa using j2
  · simp only [if_true, spec_rule, Option.bind_some, Bool.true_and]
    cases hr : ruleB a b c d
    · simpa using j2
    · simp only [if_true, Bool.not_true]
      exact ev_at (spec_code_low hd a b c d (ruleB_rest hr) hn h) (fun k => by simp [spec_DutyCode.j0])
end Go.Proofs.Ytnamdbnnijfniaa.Pure

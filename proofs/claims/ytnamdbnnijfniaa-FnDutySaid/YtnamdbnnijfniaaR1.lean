/- Duties: places of tasks, none twice; how long one drives; the rule. -/
import Derived.Test.YtnamdbnnijfniaaT1
namespace Go.Proofs.Ytnamdbnnijfniaa.Pure
open Go.RowKit Go.Proofs.Ytnamdbnnijfniaa.P Go.Proofs.YtnamdbnnijfniaaW.PrintWords Go.Proofs.YtnamdbnnijfniaaW.PrintLast

def ruleB (a b c d : Int) : Bool := inB a 1 1440 && inB b 1 1440 && inB c 1 1440 && inB d 1 1440
theorem spec_rule (a b c d : Int) : spec_RuleOk.f a b c d = some (ruleB a b c d) := by
  unfold spec_RuleOk.f ruleB
  simp only [l01In, Option.bind_some]
  cases inB a 1 1440 <;> cases inB b 1 1440 <;> cases inB c 1 1440 <;> simp
theorem impl_rule (a b c d : Int) : impl_RuleOk.f a b c d = some (ruleB a b c d) := by
  unfold impl_RuleOk.f ruleB
  simp only [between, Option.bind_some]
  cases inB a 1 1440 <;> cases inB b 1 1440 <;> cases inB c 1 1440 <;> simp

theorem spec_has (l : List Int) (x : Int) (h : l.length ≤ 1048576) : Ev (fun k => spec_l01Has.f k l x) (l.any (fun y => decide (y = x))) :=
  ev_any l (fun y => decide (y = x)) (fun k i => spec_l01Has.l0 k l x i) (fun k => by simp [spec_l01Has.l0])
    (fun k i hi hp => by simp only [decide_eq_true_eq] at hp; simp [spec_l01Has.l0, hi, rd, hp]) (fun k i hi hp => by simp only [decide_eq_false_iff_not] at hp; simp [spec_l01Has.l0, hi, rd, hp, w64s hi (by omega)])
theorem impl_has_all (l : List Int) (x : Int) (h : l.length ≤ 1048576) : Ev (fun k => impl_has.f k l x) (l.any (fun y => decide (y = x))) :=
  ev_any l (fun y => decide (y = x)) (fun k i => impl_has.l0 k x l l.length i) (fun k => by simp [impl_has.l0])
    (fun k i hi hp => by simp only [decide_eq_true_eq] at hp; simp [impl_has.l0, hi, rd, hp]) (fun k i hi hp => by simp only [decide_eq_false_iff_not] at hp; simp [impl_has.l0, hi, rd, hp, w64s hi (by omega)])

/-- Places from place i on: each within n, none among those ahead of it. -/
def placesFrom (n : Int) (l : List Int) : Nat → Bool
  | 0 => true
  | d + 1 => (inB (l.getD (l.length - (d + 1)) 0) 0 (n - 1) && !((l.take (l.length - (d + 1))).any (fun y => decide (y = l.getD (l.length - (d + 1)) 0)))) && placesFrom n l d
def placesB (n : Int) (l : List Int) : Bool := placesFrom n l l.length

theorem ev_places (n : Int) (l : List Int) (g : Nat → Int → Option Bool) (h0 : ∀ k, g (k + 1) l.length = some true)
    (h1 : ∀ (i : Nat) (h : i < l.length) (r : Bool), Ev (fun k => g k ((i + 1 : Nat) : Int)) r → Ev (fun k => g k i) ((inB l[i] 0 (n - 1) && !((l.take i).any (fun y => decide (y = l[i])))) && r)) : Ev (fun k => g k 0) (placesB n l) := by
  have key : ∀ i, i ≤ l.length → Ev (fun k => g k (i : Int)) (placesFrom n l (l.length - i)) := by
    refine down l.length ?_ (fun i hi ih => ?_)
    · rw [Nat.sub_self]; exact ev_some h0
    · obtain ⟨d, hd⟩ : ∃ d, l.length - i = d + 1 := ⟨l.length - i - 1, by omega⟩
      have e : l.length - (d + 1) = i := by omega
      have := h1 i hi _ ih
      rw [hd]
      unfold placesFrom
      rw [e, show d = l.length - (i + 1) by omega]
      simpa [List.getD_eq_getElem?_getD, List.getElem?_eq_getElem hi] using this
  have := key 0 (Nat.zero_le _)
  unfold placesB
  simpa using this

theorem spec_places (n : List S52) (l : List Int) (hn : n.length ≤ 1048576) (h : l.length ≤ 1048576) : Ev (fun k => spec_l17Places.l0 k n l 0) (placesB n.length l) := by
  refine ev_places n.length l (fun k i => spec_l17Places.l0 k n l i) (fun k => by simp [spec_l17Places.l0]) (fun i hi r hr => ?_)
  have hw := w64s hi (by omega)
  have hs : ((l.take i)).length ≤ 1048576 := by simp; omega
  have e : wrap64 ((n.length : Int) - 1) = n.length - 1 := w64 (by omega) (by omega)
  refine ev_at (f := fun k => if inB l[i] 0 ((n.length : Int) - 1) = true then (spec_l01Has.f k (l.take i) l[i]).bind fun t => if t = true then some false else spec_l17Places.l0 k n l ((i + 1 : Nat) : Int) else some false) ?_ (fun k => ?_)
  · cases inB l[i] 0 ((n.length : Int) - 1)
    · simpa using Ev.now false
    · simp only [if_true, Bool.true_and]
      refine Ev.bind (spec_has _ _ hs) ?_
      cases (l.take i).any (fun y => decide (y = l[i]))
      · simpa using hr
      · simpa using Ev.now false
  · simp [spec_l17Places.l0, hi, l01In, rd, hw, e, show (i : Int) ≤ l.length by omega]
theorem impl_places (n : List S52) (l : List Int) (hn : n.length ≤ 1048576) (h : l.length ≤ 1048576) : Ev (fun k => impl_placesOk.f k n l) (placesB n.length l) := by
  refine ev_places n.length l (fun k i => impl_placesOk.l0 k n l l l.length i) (fun k => by simp [impl_placesOk.l0]) (fun i hi r hr => ?_)
  have hw := w64s hi (by omega)
  have hs : ((l.take i)).length ≤ 1048576 := by simp; omega
  have e : wrap64 ((n.length : Int) - 1) = n.length - 1 := w64 (by omega) (by omega)
  refine ev_at (f := fun k => if inB l[i] 0 ((n.length : Int) - 1) = true then (impl_has.f k (l.take i) l[i]).bind fun t => if t = true then some false else impl_placesOk.l0 k n l l l.length ((i + 1 : Nat) : Int) else some false) ?_ (fun k => ?_)
  · cases inB l[i] 0 ((n.length : Int) - 1)
    · simpa using Ev.now false
    · simp only [if_true, Bool.true_and]
      refine Ev.bind (impl_has_all _ _ hs) ?_
      cases (l.take i).any (fun y => decide (y = l[i]))
      · simpa using hr
      · simpa using Ev.now false
  · simp [impl_placesOk.l0, hi, between, rd, hw, e, show (i : Int) ≤ l.length by omega]

theorem placesB_mem {n : Int} {l : List Int} (h : placesB n l = true) : ∀ x, x ∈ l → 0 ≤ x ∧ x < n := by
  have key : ∀ d, d ≤ l.length → placesFrom n l d = true → ∀ i (hi : i < l.length), l.length - d ≤ i → 0 ≤ l[i] ∧ l[i] < n := by
    intro d
    induction d with
    | zero => intro _ _ i hi hd; omega
    | succ d ih =>
      intro hd hp i hi hle
      unfold placesFrom at hp
      simp only [Bool.and_eq_true, inB_iff] at hp
      by_cases e : i = l.length - (d + 1)
      · have := hp.1.1
        rw [← e, List.getD_eq_getElem?_getD, List.getElem?_eq_getElem hi, Option.getD_some] at this
        omega
      · exact ih (by omega) hp.2 i hi (by omega)
  intro x hx
  obtain ⟨i, hi, rfl⟩ := List.mem_iff_getElem.1 hx
  exact key l.length (Nat.le_refl _) h i hi (by omega)

/-- A duty that is right. -/
def dutyB (n : List S52) (l : List Int) : Bool := tasksB n && inB (l.length : Int) 1 12 && placesB n.length l
theorem spec_duty (n : List S52) (l : List Int) (hn : n.length ≤ 1048576) (h : l.length ≤ 1048576) : Ev (fun k => spec_l17Duty.f k n l) (dutyB n l) := by
  unfold spec_l17Duty.f dutyB
  have hp : Ev (fun k => spec_l17Places.f k n l 12) (tasksB n && decide ((l.length : Int) ≤ 12) && placesB n.length l) := by
    unfold spec_l17Places.f
    refine Ev.bind (spec_tasks n hn) ?_
    have j2 : Ev (fun k => spec_l17Places.j0 k n l true) false := ev_some (fun k => by simp [spec_l17Places.j0])
    cases tasksB n
    · simpa using j2
    · simp only [if_true, Bool.true_and]
      by_cases h12 : (l.length : Int) ≤ 12
      · simp only [h12, decide_true, Bool.true_and, show ¬ ((l.length : Int) > 12) by omega, decide_false]
        exact ev_at (spec_places n l hn h) (fun k => by simp [spec_l17Places.j0])
      · simp only [h12, decide_false, Bool.false_and, show (l.length : Int) > 12 by omega, decide_true]
        exact j2
  refine Ev.bind hp ?_
  have e : inB (l.length : Int) 1 12 = (decide ((l.length : Int) ≤ 12) && decide ((l.length : Int) > 0)) := by
    unfold inB
    rw [Bool.and_comm]
    congr 1
  rw [e]
  cases tasksB n <;> cases decide ((l.length : Int) ≤ 12) <;> cases placesB n.length l <;> simp <;> exact Ev.now _
theorem impl_duty (n : List S52) (l : List Int) (hn : n.length ≤ 1048576) (h : l.length ≤ 1048576) : Ev (fun k => impl_dutyOk.f k n l) (dutyB n l) := by
  unfold impl_dutyOk.f dutyB
  refine Ev.bind (impl_tasks n hn) ?_
  cases tasksB n
  · simpa using Ev.now _
  · simp only [if_true, between, Option.bind_some, Bool.true_and]
    cases inB (l.length : Int) 1 12
    · simpa using Ev.now _
    · simp only [if_true, Bool.true_and]
      exact Ev.bind (impl_places n l hn h) (Ev.now _)
theorem dutyB_parts {n : List S52} {l : List Int} (h : dutyB n l = true) : (1 ≤ l.length ∧ l.length ≤ 12) ∧ (∀ x, x ∈ l → 0 ≤ x ∧ x < n.length) ∧ n.length ≤ 40 ∧ ∀ t, t ∈ n → taskB t = true := by
  simp only [dutyB, Bool.and_eq_true, inB_iff] at h
  have := tasksB_parts h.1.1
  exact ⟨by omega, placesB_mem h.2, this.1, this.2⟩

/-- The task at a place, and how long it lasts. -/
def tk (n : List S52) (x : Int) : S52 := rd_T52 n x
def len1 (n : List S52) (x : Int) : Int := (tk n x).f3 - (tk n x).f2
def drivenV0 (n : List S52) (l : List Int) : Int := l.foldl (fun s x => s + len1 n x) 0
theorem tk_ok {n : List S52} (hn : ∀ t, t ∈ n → taskB t = true) {x : Int} (hx : 0 ≤ x ∧ x < n.length) : taskB (tk n x) = true := by
  refine hn _ ?_
  unfold tk rd_T52
  exact getD_mem _ _ _ (by omega)
theorem len1_b {n : List S52} (hn : ∀ t, t ∈ n → taskB t = true) {x : Int} (hx : 0 ≤ x ∧ x < n.length) : 1 ≤ len1 n x ∧ len1 n x ≤ 100000 := by
  have := (taskB_bounds (tk_ok hn hx)).2.2.1
  unfold len1
  omega

theorem spec_driven_low {n : List S52} {l : List Int} (h : dutyB n l = true) : Ev (fun k => spec_Driven.l0 k n l 0 0) (drivenV0 n l) := by
  obtain ⟨hl, hp, _, ht⟩ := dutyB_parts h
  refine ev_fold l (fun s x => s + len1 n x) (fun k s i => spec_Driven.l0 k n l s i) (fun s => s) (fun i s => 0 ≤ s ∧ s ≤ 100000 * i) (fun s _ => ev_some (fun k => by simp [spec_Driven.l0])) (fun i hi s r hs => ?_) 0 (by simp)
  have hx := hp l[i] (List.getElem_mem _)
  have hb := len1_b ht hx
  have ht' := (taskB_bounds (tk_ok ht hx)).2.2.1
  refine ⟨by omega, fun hr => ev_at hr (fun k => ?_)⟩
  have hw := w64s hi (by omega)
  have e0 : rd l (i : Int) = l[i] := by simp [rd, hi]
  simp only [spec_Driven.l0, hw, e0]
  rw [if_pos (by omega), if_pos (by omega), if_pos hx.1, if_pos hx.2]
  unfold len1 tk at *
  rw [w64 (x := s + _) (by omega) (by omega), w64 (by omega) (by omega), Int.add_sub_assoc]
theorem impl_driven_low {n : List S52} {l : List Int} (h : dutyB n l = true) : Ev (fun k => impl_driven.f k n l) (drivenV0 n l) := by
  obtain ⟨hl, hp, _, ht⟩ := dutyB_parts h
  refine ev_fold l (fun s x => s + len1 n x) (fun k s i => impl_driven.l0 k n s l l.length i) (fun s => s) (fun i s => 0 ≤ s ∧ s ≤ 100000 * i) (fun s _ => ev_some (fun k => by simp [impl_driven.l0])) (fun i hi s r hs => ?_) 0 (by simp)
  have hx := hp l[i] (List.getElem_mem _)
  have hb := len1_b ht hx
  have ht' := (taskB_bounds (tk_ok ht hx)).2.2.1
  refine ⟨by omega, fun hr => ev_at hr (fun k => ?_)⟩
  have hw := w64s hi (by omega)
  have e0 : rd l (i : Int) = l[i] := by simp [rd, hi]
  simp only [impl_driven.l0, impl_lasts.f, Option.bind_some, hw, e0]
  rw [if_pos (by omega), if_pos (by omega), if_pos (by omega), if_pos hx.1, if_pos hx.2]
  unfold len1 tk at *
  rw [w64 (x := (rd_T52 n l[i]).f3 - (rd_T52 n l[i]).f2) (by omega) (by omega), w64 (by omega) (by omega)]

def drivenV (n : List S52) (l : List Int) : Int := if dutyB n l then drivenV0 n l else -1
theorem spec_driven_all (n : List S52) (l : List Int) (hn : n.length ≤ 1048576) (h : l.length ≤ 1048576) : Ev (fun k => spec_Driven.f k n l) (drivenV n l) := by
  unfold spec_Driven.f drivenV
  refine Ev.bind (spec_duty n l hn h) ?_
  cases hd : dutyB n l
  · simpa using Ev.now _
  · simpa using spec_driven_low hd
theorem impl_driven_all (n : List S52) (l : List Int) (hn : n.length ≤ 1048576) (h : l.length ≤ 1048576) : Ev (fun k => impl_Driven.f k n l) (drivenV n l) := by
  unfold impl_Driven.f drivenV
  refine Ev.bind (impl_duty n l hn h) ?_
  cases hd : dutyB n l
  · simpa using Ev.now _
  · simp only [if_true]
    exact Ev.bind (impl_driven_low hd) (Ev.now _)
end Go.Proofs.Ytnamdbnnijfniaa.Pure

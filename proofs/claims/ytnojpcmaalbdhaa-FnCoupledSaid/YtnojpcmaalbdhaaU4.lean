/- Shunting: heads cut off, turned, and put behind. -/
import Derived.Test.YtnojpcmaalbdhaaU3
namespace Go.Proofs.Ytnojpcmaalbdhaa.Pure
open Go.RowKit Go.Proofs.Ytnojpcmaalbdhaa.P Go.Proofs.YtnojpcmaalbdhaaW.PrintWords Go.Proofs.YtnojpcmaalbdhaaW.PrintLast
set_option linter.unusedSimpArgs false

def shunt1 (row : List S25) (c : Int) : List S25 := row.drop c.toNat ++ turned (row.take c.toNat)
def shuntB (l : List S25) (cuts : List Int) : List S25 := if (formB l && decide (cuts.length ≤ 30) && cuts.all fun c => inB c 0 l.length) = true then cuts.foldl shunt1 l else []
theorem shunt1_len (row : List S25) (c : Int) : (shunt1 row c).length = row.length := by
  unfold shunt1 turned; simp; omega
theorem unitB_flip (u : S25) : unitB (flipU u) = unitB u := rfl
theorem formB_take {l : List S25} (h : formB l = true) (n : Nat) : formB (l.take n) = true := by
  obtain ⟨h1, h2, h3⟩ := (formB_iff l).1 h
  refine (formB_iff _).2 ⟨by simp; omega, fun u hu => h2 u (List.mem_of_mem_take hu), ?_⟩
  exact h3.sublist ((List.take_sublist n l).map _)
theorem formB_turned {l : List S25} (h : formB l = true) : formB (turned l) = true := by
  obtain ⟨h1, h2, h3⟩ := (formB_iff l).1 h
  unfold turned
  refine (formB_iff _).2 ⟨by simpa using h1, fun u hu => ?_, ?_⟩
  · simp only [List.mem_reverse, List.mem_map] at hu
    obtain ⟨v, hv, rfl⟩ := hu
    exact h2 v hv
  · rw [List.map_reverse, List.map_map]
    exact (List.reverse_perm _).nodup_iff.2 h3
theorem formB_shunt {l : List S25} (h : formB l = true) (c : Int) : formB (shunt1 l c) = true := by
  obtain ⟨h1, h2, h3⟩ := (formB_iff l).1 h
  refine (formB_iff _).2 ⟨by rw [shunt1_len]; exact h1, fun u hu => ?_, ?_⟩
  · unfold shunt1 turned at hu
    simp only [List.mem_append, List.mem_reverse, List.mem_map] at hu
    rcases hu with hu | ⟨v, hv, rfl⟩
    · exact h2 u (List.mem_of_mem_drop hu)
    · exact h2 v (List.mem_of_mem_take hv)
  · unfold shunt1 turned
    rw [List.map_append, List.map_reverse, List.map_map]
    have e : (fun u : S25 => u.f0) ∘ flipU = fun u => u.f0 := rfl
    have p : ((l.drop c.toNat).map (·.f0) ++ ((l.take c.toNat).map (·.f0)).reverse).Perm (l.map (·.f0)) := by
      refine ((List.Perm.refl _).append (List.reverse_perm _)).trans ?_
      refine List.perm_append_comm.trans ?_
      rw [← List.map_append, List.take_append_drop]
    exact p.nodup_iff.2 h3
theorem spec_shunt (l : List S25) (cuts : List Int) : Ev (fun k => spec_Shunted.f k l cuts) (shuntB l cuts) := by
  unfold shuntB spec_Shunted.f
  refine Ev.bind (spec_form l) ?_
  cases h : formB l with
  | false => exact ev_some (fun k => by simp [spec_Shunted.j0])
  | true =>
    have hl := formB_len h
    by_cases hc : cuts.length ≤ 30
    · have hc2 : decide ((cuts.length : Int) > 30) = false := decide_eq_false (by omega)
      simp only [hc2, if_true, hc, decide_true, Bool.true_and]
      have fold : ∀ i, i ≤ cuts.length → ∀ row : List S25, formB row = true → row.length = l.length → (∀ c ∈ cuts.drop i, inB c 0 l.length = true) → Ev (fun k => spec_Shunted.l1 k cuts row (i : Int)) ((cuts.drop i).foldl shunt1 row) := by
        refine down cuts.length (fun row hr hn ha => ?_) (fun i hi ih row hr hn ha => ?_)
        · rw [List.drop_of_length_le (Nat.le_refl _)]; exact ev_some (fun k => by simp [spec_Shunted.l1])
        · have ed := List.drop_eq_getElem_cons hi
          rw [ed] at ha ⊢
          rw [List.foldl_cons]
          have hci := ha cuts[i] List.mem_cons_self
          have := ih (shunt1 row cuts[i]) (formB_shunt hr _) (by rw [shunt1_len]; exact hn) (fun c hc => ha c (List.mem_cons_of_mem _ hc))
          have hp := spec_part row cuts[i]
          have ep : partB row cuts[i] = (row.take cuts[i].toNat, row.drop cuts[i].toNat) := by unfold partB; rw [hr, hn, hci]; rfl
          rw [ep] at hp
          have htn := spec_turn (row.take cuts[i].toNat)
          have et : turnB (row.take cuts[i].toNat) = turned (row.take cuts[i].toNat) := by unfold turnB; rw [formB_take hr]; rfl
          rw [et] at htn
          have hj := spec_join (row.drop cuts[i].toNat) (turned (row.take cuts[i].toNat)) (by unfold turned; simp; omega)
          have er : rd cuts (i : Int) = cuts[i] := by simp [rd, hi]
          have all : Ev (fun k => (spec_Part.f k row cuts[i]).bind fun t => (spec_Turn.f k t.1).bind fun u => (spec_l15Join.f k t.2 u).bind fun v => spec_Shunted.l1 k cuts v ((i + 1 : Nat) : Int)) ((cuts.drop (i + 1)).foldl shunt1 (shunt1 row cuts[i])) :=
            Ev.bind hp (Ev.bind htn (Ev.bind hj this))
          exact ev_at all (fun k => by simp only [spec_Shunted.l1, Int.ofNat_lt.2 hi, if_true, Int.natCast_nonneg, er, w64s hi (show cuts.length ≤ 1000000000 by omega)])
      have test : ∀ i, i ≤ cuts.length → ∀ b, (b = cuts.all fun c => inB c 0 l.length) → ((cuts.take i).all fun c => inB c 0 l.length) = true → Ev (fun k => spec_Shunted.l0 k l cuts (i : Int)) (if b = true then cuts.foldl shunt1 l else []) := by
        refine down cuts.length (fun b hb ha => ?_) (fun i hi ih b hb ha => ?_)
        · rw [List.take_length] at ha
          rw [ha] at hb
          subst hb
          simp only [if_true]
          have hj := spec_join l [] (by simp; omega)
          rw [List.append_nil] at hj
          have hf := fold 0 (Nat.zero_le _) l h rfl (by rw [List.drop_zero]; exact List.all_eq_true.1 ha)
          rw [List.drop_zero] at hf
          have both : Ev (fun k => (spec_l15Join.f k l []).bind fun t => spec_Shunted.l1 k cuts t 0) (cuts.foldl shunt1 l) := Ev.bind hj hf
          exact ev_at both (fun k => by simp [spec_Shunted.l0])
        · have er : rd cuts (i : Int) = cuts[i] := by simp [rd, hi]
          have e : cuts.take (i + 1) = cuts.take i ++ [cuts[i]] := List.take_succ_eq_append_getElem hi
          cases hx : inB cuts[i] 0 l.length with
          | true =>
            have := ih b hb (by rw [e, List.all_append, ha]; simp [hx])
            exact ev_at this (fun k => by simp only [spec_Shunted.l0, Int.ofNat_lt.2 hi, if_true, Int.natCast_nonneg, er, l01In, hx, Option.bind_some, w64s hi (show cuts.length ≤ 1000000000 by omega)])
          | false =>
            have : b = false := by
              rw [hb, List.all_eq_false]; exact ⟨cuts[i], List.getElem_mem hi, by simp [hx]⟩
            subst this
            simp only [Bool.false_eq_true, if_false]
            exact ev_some (fun k => by simp [spec_Shunted.l0, hi, er, l01In, hx])
      exact ev_at (test 0 (Nat.zero_le _) _ rfl (by simp)) (fun k => by simp [spec_Shunted.j0])
    · have hc2 : decide ((cuts.length : Int) > 30) = true := decide_eq_true (by omega)
      simp only [hc2, hc, decide_false, Bool.and_false, Bool.false_and]
      exact ev_some (fun k => by simp [spec_Shunted.j0])
theorem impl_shunt (l : List S25) (cuts : List Int) : Ev (fun k => impl_Shunted.f k l cuts) (shuntB l cuts) := by
  unfold shuntB impl_Shunted.f
  simp only [impl_form, Option.bind_some]
  cases h : formB l with
  | false => exact ev_some (fun k => by simp [impl_Shunted.j0])
  | true =>
    have hl := formB_len h
    by_cases hc : cuts.length ≤ 30
    · have hc2 : decide ((cuts.length : Int) > 30) = false := decide_eq_false (by omega)
      simp only [hc2, if_true, hc, decide_true, Bool.true_and]
      have fold : ∀ i, i ≤ cuts.length → ∀ row : List S25, row.length = l.length → (∀ c ∈ cuts.drop i, inB c 0 l.length = true) → Ev (fun k => impl_Shunted.l1 k row cuts cuts.length (i : Int)) ((cuts.drop i).foldl shunt1 row) := by
        refine down cuts.length (fun row hn ha => ?_) (fun i hi ih row hn ha => ?_)
        · rw [List.drop_of_length_le (Nat.le_refl _)]; exact ev_some (fun k => by simp [impl_Shunted.l1])
        · have ed := List.drop_eq_getElem_cons hi
          rw [ed] at ha ⊢
          rw [List.foldl_cons]
          have hci := inB_iff.1 (ha cuts[i] List.mem_cons_self)
          have := ih (shunt1 row cuts[i]) (by rw [shunt1_len]; exact hn) (fun c hc => ha c (List.mem_cons_of_mem _ hc))
          have htn := impl_turned_ (row.take cuts[i].toNat) (by simp; omega)
          have hj := impl_join (row.drop cuts[i].toNat) (turned (row.take cuts[i].toNat)) (by unfold turned; simp; omega)
          have er : rd cuts (i : Int) = cuts[i] := by simp [rd, hi]
          have all : Ev (fun k => (impl_turned.f k (row.take cuts[i].toNat)).bind fun u => (impl_joined.f (row.drop cuts[i].toNat) u).bind fun v => impl_Shunted.l1 k v cuts cuts.length ((i + 1 : Nat) : Int)) ((cuts.drop (i + 1)).foldl shunt1 (shunt1 row cuts[i])) := by
            refine Ev.bind htn ?_
            simp only [hj, Option.bind_some]
            exact this
          exact ev_at all (fun k => by simp only [impl_Shunted.l1, Int.ofNat_lt.2 hi, if_true, Int.natCast_nonneg, er, hci.1, show cuts[i] ≤ (row.length : Int) by omega, w64s hi (show cuts.length ≤ 1000000000 by omega)])
      have test : ∀ i, i ≤ cuts.length → ∀ b, (b = cuts.all fun c => inB c 0 l.length) → ((cuts.take i).all fun c => inB c 0 l.length) = true → Ev (fun k => impl_Shunted.l0 k l cuts cuts cuts.length (i : Int)) (if b = true then cuts.foldl shunt1 l else []) := by
        refine down cuts.length (fun b hb ha => ?_) (fun i hi ih b hb ha => ?_)
        · rw [List.take_length] at ha
          rw [ha] at hb
          subst hb
          simp only [if_true]
          have hj := impl_join l [] (by simp; omega)
          rw [List.append_nil] at hj
          have hf := fold 0 (Nat.zero_le _) l rfl (by rw [List.drop_zero]; exact List.all_eq_true.1 ha)
          rw [List.drop_zero] at hf
          exact ev_at hf (fun k => by simp [impl_Shunted.l0, hj])
        · have er : rd cuts (i : Int) = cuts[i] := by simp [rd, hi]
          have e : cuts.take (i + 1) = cuts.take i ++ [cuts[i]] := List.take_succ_eq_append_getElem hi
          cases hx : inB cuts[i] 0 l.length with
          | true =>
            have := ih b hb (by rw [e, List.all_append, ha]; simp [hx])
            exact ev_at this (fun k => by simp only [impl_Shunted.l0, Int.ofNat_lt.2 hi, if_true, Int.natCast_nonneg, er, between, hx, Option.bind_some, w64s hi (show cuts.length ≤ 1000000000 by omega)])
          | false =>
            have : b = false := by
              rw [hb, List.all_eq_false]; exact ⟨cuts[i], List.getElem_mem hi, by simp [hx]⟩
            subst this
            simp only [Bool.false_eq_true, if_false]
            exact ev_some (fun k => by simp [impl_Shunted.l0, hi, er, between, hx])
      exact ev_at (test 0 (Nat.zero_le _) _ rfl (by simp)) (fun k => by simp [impl_Shunted.j0])
    · have hc2 : decide ((cuts.length : Int) > 30) = true := decide_eq_true (by omega)
      simp only [hc2, hc, decide_false, Bool.and_false, Bool.false_and]
      exact ev_some (fun k => by simp [impl_Shunted.j0])
theorem shuntB_len (l : List S25) (cuts : List Int) : (shuntB l cuts).length ≤ 30 := by
  unfold shuntB
  split
  · rename_i h
    simp only [Bool.and_eq_true] at h
    have hl := formB_len h.1.1
    have : ∀ (cs : List Int) (r : List S25), r.length ≤ 30 → (cs.foldl shunt1 r).length ≤ 30 := by
      intro cs
      induction cs with
      | nil => intro r hr; exact hr
      | cons c cs ih => intro r hr; exact ih _ (by rw [shunt1_len]; exact hr)
    exact this cuts l hl
  · simp
end Go.Proofs.Ytnojpcmaalbdhaa.Pure

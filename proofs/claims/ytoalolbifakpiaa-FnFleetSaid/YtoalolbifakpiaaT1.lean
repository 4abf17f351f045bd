/- Rows of tasks: copied, compared, tested. -/
import Derived.Test.YtoalolbifakpiaaB
namespace Go.Proofs.Ytoalolbifakpiaa.Pure
open Go.RowKit Go.Proofs.Ytoalolbifakpiaa.P Go.Proofs.YtoalolbifakpiaaW.PrintWords Go.Proofs.YtoalolbifakpiaaW.PrintLast

def unt (x : S23) : S25 := ⟨x.f0, x.f1, x.f2, x.f3, x.f4⟩
theorem to_tasks (l : List S23) (h : l.length ≤ 1048576) : Ev (fun k => laws_toTaskS.f k l) (l.map unt) := by
  have key := ev_map z23 l unt (fun k acc i => laws_toTaskS.l0 k l acc i) (List.replicate l.length z25) (by simp)
    (fun k acc ha => by simp [laws_toTaskS.l0])
    (fun k acc i hi ha => by simp [laws_toTaskS.l0, laws_toTask.f, w64s hi (by omega), hi, ha, rd_T23, unt])
  simpa [laws_toTaskS.f, show l.length ≤ 7036874417766 by omega] using key
theorem eq_tasks (l : List S25) (h : l.length ≤ 1048576) : Ev (fun k => laws_eqTaskS.f k l l) true := by
  have key := ev_true l.length (fun k i => laws_eqTaskS.l0 k l l i) (fun k => by simp [laws_eqTaskS.l0]) (fun k i hi => by simp [laws_eqTaskS.l0, laws_eqTask.f, w64s hi (by omega), hi])
  simpa [laws_eqTaskS.f] using key
theorem sz_tasks (l : List S23) (n : Int) (h0 : 0 ≤ n) (h1 : n ≤ 1048576) (h : l.length ≤ maxLen) : laws_szTaskS.f l n = some (if n < l.length then -1 else n - l.length) := by
  unfold maxLen at h
  unfold laws_szTaskS.f
  rw [w64 (by omega) (by omega)]
  split <;> split <;> first | rfl | omega

/-- A task that is right. -/
def taskB (t : S25) : Bool := inB t.f0 0 29 && inB t.f1 0 29 && inB t.f3 0 100000 && inB t.f2 0 (t.f3 - 1) && inB t.f4 0 2000
theorem taskB_iff (t : S25) : taskB t = true ↔ ((0 ≤ t.f0 ∧ t.f0 ≤ 29) ∧ (0 ≤ t.f1 ∧ t.f1 ≤ 29)) ∧ (0 ≤ t.f2 ∧ t.f2 < t.f3 ∧ t.f3 ≤ 100000) ∧ (0 ≤ t.f4 ∧ t.f4 ≤ 2000) := by
  simp only [taskB, Bool.and_eq_true, inB_iff]
  omega
theorem spec_task (t : S25) : spec_l16Task.f t.f0 t.f1 t.f2 t.f3 t.f4 = some (taskB t) := by
  unfold spec_l16Task.f taskB
  simp only [l01In, Option.bind_some]
  cases inB t.f0 0 29 <;> cases inB t.f1 0 29 <;> simp
  cases h : inB t.f3 0 100000 <;> simp
  have := inB_iff.1 h
  rw [w64 (by omega) (by omega)]
  cases inB t.f2 0 (t.f3 - 1) <;> simp
theorem impl_task (t : S25) : impl_taskOk.f t.f0 t.f1 t.f2 t.f3 t.f4 = some (taskB t) := by
  unfold impl_taskOk.f
  simp only [impl_isMinute.f, between, Option.bind_some]
  by_cases h : taskB t = true
  · obtain ⟨⟨a, b⟩, ⟨c, d, e⟩, f⟩ := (taskB_iff t).1 h
    rw [h, inB_iff.2 a, inB_iff.2 b, inB_iff.2 (show 0 ≤ t.f2 ∧ t.f2 ≤ 100000 by omega), inB_iff.2 (show 0 ≤ t.f3 ∧ t.f3 ≤ 100000 by omega), inB_iff.2 f]
    simp [d]
  · rw [Bool.not_eq_true] at h
    rw [h]
    cases ha : inB t.f0 0 29 <;> cases hb : inB t.f1 0 29 <;> cases hc : inB t.f2 0 100000 <;> cases hd : inB t.f3 0 100000 <;> cases hf : inB t.f4 0 2000 <;> simp
    refine Int.not_lt.1 (fun hlt => ?_)
    have := (taskB_iff t).2 ⟨⟨inB_iff.1 ha, inB_iff.1 hb⟩, ⟨(inB_iff.1 hc).1, hlt, (inB_iff.1 hd).2⟩, inB_iff.1 hf⟩
    rw [h] at this
    simp at this

def tasksB (l : List S25) : Bool := l.all taskB && decide ((l.length : Int) ≤ 40)
theorem spec_tasks (l : List S25) (h : l.length ≤ 1048576) : Ev (fun k => spec_TasksOk.f k l) (tasksB l) :=
  ev_all l taskB (fun k i => spec_TasksOk.l0 k l i) (decide ((l.length : Int) ≤ 40)) (fun k => by simp [spec_TasksOk.l0])
    (fun k i hi hp => by
      have := spec_task l[i]
      simp [spec_TasksOk.l0, hi, rd_T25, this, hp, w64s hi (by omega)])
    (fun k i hi hp => by
      have := spec_task l[i]
      simp [spec_TasksOk.l0, hi, rd_T25, this, hp])
theorem impl_tasks (l : List S25) (h : l.length ≤ 1048576) : Ev (fun k => impl_TasksOk.f k l) (tasksB l) := by
  have key := ev_all l taskB (fun k i => impl_TasksOk.l0 k l l.length i) true (fun k => by simp [impl_TasksOk.l0])
    (fun k i hi hp => by
      have := impl_task l[i]
      simp [impl_TasksOk.l0, hi, rd_T25, this, hp, w64s hi (by omega)])
    (fun k i hi hp => by
      have := impl_task l[i]
      simp [impl_TasksOk.l0, hi, rd_T25, this, hp])
  unfold impl_TasksOk.f tasksB
  by_cases hl : (l.length : Int) ≤ 40
  · simpa [hl, show ¬ (40 < (l.length : Int)) by omega] using key
  · simp only [hl, decide_false, Bool.and_false, show (l.length : Int) > 40 by omega, if_true]
    exact Ev.now _
theorem tasksB_parts {l : List S25} (h : tasksB l = true) : l.length ≤ 40 ∧ ∀ t, t ∈ l → taskB t = true := by
  simp only [tasksB, Bool.and_eq_true, List.all_eq_true, decide_eq_true_eq] at h
  exact ⟨by omega, h.1⟩
theorem taskB_bounds {t : S25} (h : taskB t = true) : (0 ≤ t.f0 ∧ t.f0 ≤ 29) ∧ (0 ≤ t.f1 ∧ t.f1 ≤ 29) ∧ (0 ≤ t.f2 ∧ t.f2 < t.f3 ∧ t.f3 ≤ 100000) ∧ (0 ≤ t.f4 ∧ t.f4 ≤ 2000) := by
  obtain ⟨⟨a, b⟩, c, d⟩ := (taskB_iff t).1 h
  exact ⟨a, b, c, d⟩
end Go.Proofs.Ytoalolbifakpiaa.Pure

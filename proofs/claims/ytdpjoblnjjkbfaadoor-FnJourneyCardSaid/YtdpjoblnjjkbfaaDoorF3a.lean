/- Rows of thirty numbers, read and copied whole. -/
import Derived.Test.YtdpjoblnjjkbfaaDoorF2a
import Derived.Laws.Tables
import Derived.Laws.CopyOwn
namespace Go.Proofs.YtdpjoblnjjkbfaaDoor.P
open Go.RowKit Go.Proofs.YtdpjoblnjjkbfaaDoorW.PrintWords Go.Proofs.YtdpjoblnjjkbfaaDoorW.PrintLast Go.Proofs.YtdpjoblnjjkbfaaDoorW.PrintMore
attribute [local go_sem] max2_int min2_int max_two min_two max_three min_three max_four min_four   -- for this text's walks alone
set_option linter.unusedVariables false
set_option linter.unusedSimpArgs false

def rowv (o : List Int) (h : Nat) : List Int := (List.range 30).map (fun i => o.getD (h * 30 + i) 0)
def rowX (o : List Int) (h : Nat) : Array Value := ((rowv o h).map (Value.int .i64)).toArray
theorem rowv_len (o : List Int) (h : Nat) : (rowv o h).length = 30 := by simp [rowv]
theorem rowX_size (o : List Int) (h : Nat) : (rowX o h).size = 30 := by simp [rowX, rowv]
theorem rowX_get (o : List Int) (h i : Nat) (hi : i < 30) : (rowX o h)[i]? = some (.int .i64 (o.getD (h * 30 + i) 0)) := by
  simp [rowX, rowv, hi]
theorem rowX_all (o : List Int) (h : Nat) : (rowX o h).all (·.oneCell') = true := by
  rw [Array.all_eq_true_iff_forall_mem]
  intro v hv
  simp only [rowX, List.mem_toArray, List.mem_map] at hv
  obtain ⟨x, _, rfl⟩ := hv
  rfl
theorem hd_load_list (P : Program) (W : World) (a : Addr) (cs : List Value) (k : Nat) (hk : cs.length = k) (h : ∀ j v, cs[j]? = some v → W.cell? (a.add j) = some v) :
    Sem.run P (loadCells a k) W = .ok cs.toArray W := by
  have := run_loadCells_list (P := P) (w := W) a cs h
  rw [hk] at this
  exact this
theorem hd_load74 (W : World) (p : Addr) (X : Array Value) (h : Sem.run Tryd.prog (loadCells p 30) W = .ok X W) : (Instr.loadAt 74 (.pointer (some p))).run Tryd.prog W = .ok (.agg X) W := by
  have hu74 := Tryd.underlying74
  have hs : (Go.sizeOf 74).run Tryd.prog W = .ok 30 W := by first | exact Tryd.sizeOf74 W | (go_simp; done) | (simp [Go.sizeOf]; done)
  have ha : (isAgg 74).run Tryd.prog W = .ok true W := by first | exact Tryd.isAgg74 W | (go_simp; done)
  simp only [Instr.loadAt, loadVar, Instr.sureAddr, Sem.run_bind, Sem.run_pure, Result.andThen_ok, ha, hs, h, if_true, Sem.run_ite]
theorem hd_exec74 (a : Act) (o : Oper) (W : World) (p : Addr) (X : Array Value) (t : Tmp) (ho : o.op = .load 74 (.tmp t)) (ht : a.eval (.tmp t) = .pointer (some p)) (h : Sem.run Tryd.prog (loadCells p 30) W = .ok X W) : (execOp a.eval o).run Tryd.prog W = .ok (.value (.agg X)) W := by
  have hl := hd_load74 W p X h
  unfold execOp
  rw [ho]
  simp only [ht, Sem.run_bind, hl, Result.andThen_ok, Sem.run_pure]
theorem ar_row {W : World} {g n cap : Nat} {o : List Int} (h : AR W g n cap o) (i : Nat) (hi : i < n) : Sem.run Tryd.prog (loadCells ⟨g, i * 30, none⟩ 30) W = .ok (rowX o i) W := by
  refine hd_load_list _ W _ _ 30 (by simp [rowv_len]) (fun j v hj => ?_)
  have hj30 : j < 30 := by
    have := (List.getElem?_eq_some_iff.1 hj).1
    simpa [rowv_len] using this
  have e : (⟨g, i * 30, none⟩ : Addr).add j = ⟨g, i * 30 + j, none⟩ := by
    unfold Addr.add
    split <;> simp_all
  rw [e, (ar_cell h (i * 30 + j) (by omega)).1, ← hj]
  simp [rowv, hj30]
theorem hd_al74 (W : World) : (Instr.alloc 74 true (.tuple #[])).run Tryd.prog W = .ok (.pointer (some ⟨W.heap.size, 0, none⟩)) (W.alloc (.cells zs30.toArray 74 (0, 0))) := by
  have hz : (zeroValue 74).run Tryd.prog W = .ok (.agg zs30.toArray) W := by
    unfold zeroValue
    obtain ⟨i, hi, hz⟩ := Option.map_eq_some_iff.1 hd_info74
    have hz2 : i.zero = some (.agg zs30.toArray) := congrArg Prod.fst hz
    simp only [Sem.run_bind, run_typeInfo W hi, Result.andThen_ok, hz2, Sem.run_pure]
  unfold Instr.alloc
  simp only [Sem.run_bind, hz, Result.andThen_ok, Sem.run_pure]
  generalize zs30.toArray = Z
  simp [newVar, newRow, Value.cells, newObj, Sem.run]
theorem hd_exec_al74 (a : Act) (o : Oper) (W : World) (ho : o.op = .alloc 74) : (execOp a.eval o).run Tryd.prog W = .ok (.value (.pointer (some ⟨W.heap.size, 0, none⟩))) (W.alloc (.cells zs30.toArray 74 (0, 0))) := by
  have hl := hd_al74 W
  unfold execOp
  rw [ho]
  simp only [Sem.run_bind, hl, Result.andThen_ok, Sem.run_pure]
theorem hd_size74 (X : Array Value) (h : X.size = 30) : (Tryd.prog.info? 74).map (·.size) = some X.size := by
  obtain ⟨i, hi, hz⟩ := Option.map_eq_some_iff.1 hd_info74
  rw [hi, h]
  exact congrArg (fun x => some x.2.1) hz
theorem ar_setRow {W : World} {g n cap : Nat} {o : List Int} (h : AR W g n cap o) {B : Nat} (hne : g ≠ B) (X : Array Value) : AR (W.setRow B X) g n cap o := by
  obtain ⟨h1, h2, cur, hc, hs, hv⟩ := h
  exact ⟨h1, h2, cur, (setRow_other W B g X hne).trans hc, hs, hv⟩
end Go.Proofs.YtdpjoblnjjkbfaaDoor.P

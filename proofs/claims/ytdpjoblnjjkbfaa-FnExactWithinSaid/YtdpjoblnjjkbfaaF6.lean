/- The program's Within: a contract by hand (an array of marks in memory). -/
import Derived.Test.YtdpjoblnjjkbfaaF3a
import Derived.Test.YtdpjoblnjjkbfaaPx22
import Derived.BigRegion
namespace Go.Proofs.Ytdpjoblnjjkbfaa.P
open Go.RowKit Go.Proofs.YtdpjoblnjjkbfaaW.PrintWords Go.Proofs.YtdpjoblnjjkbfaaW.PrintLast Go.Proofs.YtdpjoblnjjkbfaaW.PrintMore
attribute [local go_sem] max2_int min2_int max_two min_two max_three min_three max_four min_four   -- for this text's walks alone
set_option linter.unusedVariables false
set_option linter.unusedSimpArgs false

def zb30 : List Value := List.replicate 30 (.bool false)
theorem hd_info68 : (Try.prog.info? 68).map (fun i => (i.zero, i.size, i.bytes)) = some (some (.agg zb30.toArray), 30, 30) := by kernel_rfl
theorem hd_al68 (W : World) : (Instr.alloc 68 true (.tuple #[])).run Try.prog W = .ok (.pointer (some ⟨W.heap.size, 0, none⟩)) (W.alloc (.cells zb30.toArray 68 (0, 0))) := by
  have hz : (zeroValue 68).run Try.prog W = .ok (.agg zb30.toArray) W := by
    unfold zeroValue
    obtain ⟨i, hi, hz⟩ := Option.map_eq_some_iff.1 hd_info68
    have hz2 : i.zero = some (.agg zb30.toArray) := congrArg Prod.fst hz
    simp only [Sem.run_bind, run_typeInfo W hi, Result.andThen_ok, hz2, Sem.run_pure]
  unfold Instr.alloc
  simp only [Sem.run_bind, hz, Result.andThen_ok, Sem.run_pure]
  generalize zb30.toArray = Z
  simp [newVar, newRow, Value.cells, newObj, Sem.run]
theorem hd_exec_al68 (a : Act) (o : Oper) (W : World) (ho : o.op = .alloc 68) : (execOp a.eval o).run Try.prog W = .ok (.value (.pointer (some ⟨W.heap.size, 0, none⟩))) (W.alloc (.cells zb30.toArray 68 (0, 0))) := by
  have hl := hd_al68 W
  unfold execOp
  rw [ho]
  simp only [Sem.run_bind, hl, Result.andThen_ok, Sem.run_pure]
theorem hd_load68 (W : World) (p : Addr) (X : Array Value) (h : Sem.run Try.prog (loadCells p 30) W = .ok X W) : (Instr.loadAt 68 (.pointer (some p))).run Try.prog W = .ok (.agg X) W := by
  have hu68 := Try.underlying68
  have hs : (Go.sizeOf 68).run Try.prog W = .ok 30 W := by first | exact Try.sizeOf68 W | (go_simp; done) | (simp [Go.sizeOf]; done)
  have ha : (isAgg 68).run Try.prog W = .ok true W := by first | exact Try.isAgg68 W | (go_simp; done)
  simp only [Instr.loadAt, loadVar, Instr.sureAddr, Sem.run_bind, Sem.run_pure, Result.andThen_ok, ha, hs, h, if_true, Sem.run_ite]
theorem hd_exec68 (a : Act) (o : Oper) (W : World) (p : Addr) (X : Array Value) (t : Tmp) (ho : o.op = .load 68 (.tmp t)) (ht : a.eval (.tmp t) = .pointer (some p)) (h : Sem.run Try.prog (loadCells p 30) W = .ok X W) : (execOp a.eval o).run Try.prog W = .ok (.value (.agg X)) W := by
  have hl := hd_load68 W p X h
  unfold execOp
  rw [ho]
  simp only [ht, Sem.run_bind, hl, Result.andThen_ok, Sem.run_pure]

theorem hd_index68 (W : World) (X : Array Value) (i : Nat) (hi : i < 30) (b : Bool) (h : X[i]? = some (.bool b)) : (Instr.index 68 (.agg X) (.int .i64 (i : Int))).run Try.prog W = .ok (.bool b) W := by
  have hu := Try.underlying68
  have hs : (Go.sizeOf 4).run Try.prog W = .ok 1 W := by first | exact Try.sizeOf4 W | (go_simp; done) | (simp [Go.sizeOf]; done)
  have ha : (isAgg 4).run Try.prog W = .ok false W := by first | exact Try.isAgg4 W | (go_simp; done)
  have h0 : 0 ≤ (i : Int) ∧ (i : Int) < 30 := by omega
  unfold Instr.index part
  simp only [Sem.run_bind, run_underlying hu, Result.andThen_ok]
  simp [h0, h, hs, ha, asIntOf]
theorem hd_exec_ix68 (a : Act) (o : Oper) (W : World) (X : Array Value) (i : Nat) (hi : i < 30) (b : Bool) (t u : Tmp) (ho : o.op = .index 68 (.tmp t) (.tmp u)) (ht : a.eval (.tmp t) = .agg X) (hu : a.eval (.tmp u) = .int .i64 (i : Int)) (h : X[i]? = some (.bool b)) : (execOp a.eval o).run Try.prog W = .ok (.value (.bool b)) W := by
  have hl := hd_index68 W X i hi b h
  unfold execOp
  rw [ho]
  simp only [ht, hu, Sem.run_bind, hl, Result.andThen_ok, Sem.run_pure]
/-- A block of thirty marks. -/
def BL (W : World) (B : Nat) (ys : List Bool) : Prop := ys.length = 30 ∧ W.heap[B]? = some (.cells (ys.map Value.bool).toArray 68 (0, 0))
theorem bl_cell {W : World} {B : Nat} {ys : List Bool} (h : BL W B ys) (i : Nat) (hi : i < 30) : W.cell? ⟨B, i, none⟩ = some (.bool (ys.getD i false)) ∧ W.frozen? ⟨B, i, none⟩ = false := by
  obtain ⟨hl, hc⟩ := h
  refine ⟨?_, blk_frozen hc i⟩
  rw [blk_cell hc]
  simp [List.getD_eq_getElem?_getD, show i < ys.length by omega]
theorem bl_set {W : World} {B : Nat} {ys : List Bool} (h : BL W B ys) (i : Nat) (b : Bool) : BL (W.setCell ⟨B, i, none⟩ (.bool b)) B (ys.set i b) := by
  obtain ⟨hl, hc⟩ := h
  exact ⟨by simpa using hl, blk_put hc i _ (by simp)⟩
theorem bl_below {W W' : World} {B : Nat} {ys : List Bool} (h : BL W B ys) (hb : Below W.heap.size W W') : BL W' B ys := ⟨h.1, blk_below h.2 hb⟩
theorem bl_lt {W : World} {B : Nat} {ys : List Bool} (h : BL W B ys) : B < W.heap.size := blk_lt h.2
theorem bl_setRow {W : World} {B : Nat} {ys : List Bool} (h : BL W B ys) {C : Nat} (hne : B ≠ C) (X : Array Value) : BL (W.setRow C X) B ys := ⟨h.1, (setRow_other W C B X hne).trans h.2⟩
theorem bl_new (W : World) : BL (W.alloc (.cells zb30.toArray 68 (0, 0))) W.heap.size (List.replicate 30 false) := ⟨by simp, by
  have : ((List.replicate 30 false).map Value.bool) = zb30 := by simp [zb30]
  rw [this]; exact blk_new W _⟩
theorem bl_row {W : World} {B : Nat} {ys : List Bool} (h : BL W B ys) : Sem.run Try.prog (loadCells ⟨B, 0, none⟩ 30) W = .ok (ys.map Value.bool).toArray W := by
  refine hd_load_list _ W _ _ 30 (by simpa using h.1) (fun j v hj => ?_)
  have e : (⟨B, 0, none⟩ : Addr).add j = ⟨B, j, none⟩ := by
    unfold Addr.add
    split <;> simp_all
  rw [e, blk_cell h.2]
  simpa using hj
set_option maxHeartbeats 16000000 in
set_option maxRecDepth 100000 in
theorem impl_Within.calls (k : Nat) (A0 : Option Addr) (c0 : Nat) (l0 : List (S51)) (a1 : Int) (a2 : Int) (a3 : Int) (a4 : Int) (r : List Int) (w : World) (hr0 : Kd.C k51 w A0 l0.length l0) (hc0 : l0.length ≤ c0) (h : impl_Within.f k l0 a1 a2 a3 a4 = some r) :
    Calls Try.prog 20 #[.slice A0 l0.length c0, .int .i64 a1, .int .i64 a2, .int .i64 a3, .int .i64 a4] w fun e w' => ∃ v0_ : Value, e = .returned (v0_) ∧ Kd.R (Kd.int .i64) 3 w' w.heap.size (fun _ => True) v0_ r ∧ Below w.heap.size w w' := by
  have hu63 := Try.underlying63; have hu65 := Try.underlying65; have hu68 := Try.underlying68; have mixed : Try.prog.follows Departure.mixedOrders = true := by kernel_rfl
  have HR0 := Aside0.mk hr0
  have HC0 := Aside0.mk hc0
  clear hr0 hc0
  obtain ⟨t, A6, H⟩ := Option.bind_eq_some_iff.1 h
  clear h
  cases t with
  | false =>
    obtain rfl : ([] : List Int) = r := by simpa using H
    go_enter Try.func20, Try.ntmps20
    go_wp2_with (go_at_call 36; refine (impl_questionOk.calls k A0 c0 l0 a1 a1 a2 a3 a4 false _ (by first | exact HR0.out | exact Kd.C_drew HR0.out | exact Kd.C_drewN HR0.out _) HC0.out A6).mono ?_; rintro e w1 ⟨rfl, hb1⟩)
    go_ret
    exact ⟨_, rfl, Kd.R_nil _ _ _ _ _, hb1⟩
  | true =>
    simp only [if_true, impl_Within.l2] at H
    split at H
    case isFalse => simp at H
    rename_i hc
    obtain ⟨i1, i2, i3, i4, i5, i6, i7, i8, i9⟩ := hc
    obtain ⟨hops, hhops⟩ : ∃ q : Nat, a4 = (q : Int) := ⟨a4.toNat, by omega⟩
    subst hhops
    rw [Int.toNat_natCast] at H
    obtain ⟨o, ho⟩ : ∃ q, q = impl_arrivals.l3 l0 a1 a2 a3 hops := ⟨_, rfl⟩
    rw [← ho] at H
    have HO := Aside0.mk ho
    have HRES := Aside0.mk (Option.some.inj H)
    have HC1 : Aside0 ((0 ≤ a1 ∧ a1 < 30) ∧ (0 ≤ a2 ∧ a2 ≤ 100000) ∧ (0 ≤ a3 ∧ a3 ≤ 60)) := ⟨⟨⟨i2, i3⟩, ⟨i4, i5⟩, ⟨i6, i7⟩⟩⟩
    have HOK := Aside0.mk (ar_ok_of l0 i1)
    have HQ := Aside0.mk A6
    have h5 : hops ≤ 5 := by omega
    clear H A6 ho i1 i2 i3 i4 i5 i6 i7 i8 i9
    go_enter Try.func20, Try.ntmps20
    go_wp2_with (first
      | (go_at_call 36; refine (impl_questionOk.calls k A0 c0 l0 a1 a1 a2 a3 (hops : Int) true _ (by first | exact HR0.out | exact Kd.C_drew HR0.out | exact Kd.C_drewN HR0.out _) HC0.out HQ.out).mono ?_; rintro e w1 ⟨rfl, hb1⟩; have HB1 := Aside0.mk hb1; clear hb1)
      | ((with_reducible refine gate_dst (N := 11) rfl ?_); refine Kd.event_run ?hgd (hd_exec_al68 _ _ _ rfl) ?_; (case hgd => rfl); have HN := Aside0.mk (bl_new w1); have HB2 := Aside0.mk (below_alloc HB1.out (Obj.cells zb30.toArray 68 (0, 0))); have HGE0 := Aside0.mk (below_size HB1.out); generalize w1.alloc (Obj.cells zb30.toArray 68 (0, 0)) = w2 at HN HB2 ⊢; generalize w1.heap.size = B at HN HGE0 ⊢)
      | (go_at_call 44; refine (hd_arrivals A0 c0 l0 a1 a2 a3 hops _ (by first | exact Kd.C_below HR0.out HB2.out | exact Kd.C_drewN (Kd.C_below HR0.out HB2.out) _) HC0.out h5 HC1.out.1 HC1.out.2.1 HC1.out.2.2 HOK.out).mono ?_; rintro e w3 ⟨g, cap, rfl, har, hgb, hb⟩; rw [← HO.out] at har))
    have HNE0 := Aside0.mk (Nat.ne_of_lt (Nat.lt_of_lt_of_le (bl_lt HN.out) hgb))
    have HBL0 := Aside0.mk (bl_below HN.out hb)
    have HB0 := Aside0.mk (below_step HB2.out hb)
    have HA0 := Aside0.mk har
    clear HN har hb hgb HB2
    go_loopg [33] (hops + 2) (fun kq v33 w' => ∃ (h : Nat) (ys : List Bool), v33 = .int .i64 (h : Int) ∧ h ≤ hops + 1 ∧ hops + 2 ≤ h + kq ∧ Aside0 (∀ i, i < 30 → ys.getD i false = impl_Within.l0 o i h) ∧ Aside0 (BL w' B ys) ∧ Aside0 (AR w' g (hops + 1) cap o) ∧ Aside0 (Below w.heap.size w w'))
    case atStart => exact ⟨0, List.replicate 30 false, rfl, by omega, by omega, ⟨fun i hi => by rw [List.getD_eq_getElem?_getD, List.getElem?_replicate, if_pos hi]; rfl⟩, HBL0, HA0, HB0⟩
    case round =>
      clear HBL0 HA0 HB0
      obtain ⟨h, ys, rfl, hh, hg, HS, HBL, HA, HB⟩ := hrel
      by_cases c : h < hops + 1
      · have cz : (h : Int) < (hops : Int) + 1 := by omega
        have h0 : (0 : Int) ≤ (h : Int) := by omega
        obtain ⟨X, hX⟩ : ∃ q, q = rowX o h := ⟨_, rfl⟩
        have HXL : Aside0 (Sem.run Try.prog (loadCells ⟨g, h * 30, none⟩ 30) wr = .ok X wr) := ⟨by rw [hX]; exact ar_row HA.out h c⟩
        have HXS : Aside0 (X.size = 30) := ⟨by rw [hX]; exact rowX_size o h⟩
        have HXA : Aside0 (X.all (·.oneCell') = true) := ⟨by rw [hX]; exact rowX_all o h⟩
        have HXG : Aside0 (∀ i, i < 30 → X[i]? = some (.int .i64 (o.getD (h * 30 + i) 0))) := ⟨fun i hi => by rw [hX]; exact rowX_get o h i hi⟩
        clear hX
        go_wp2_with (first
          | ((with_reducible refine gate_dst (N := 36) rfl ?_); refine Kd.event_run ?hgd (hd_exec65 _ _ _ _ X 35 rfl rfl HXL.out) ?_; (case hgd => rfl))
          | ((with_reducible refine gate_dst (N := 13) rfl ?_); refine Kd.event_run ?hgd (hd_exec_al65 _ _ _ rfl) ?_; (case hgd => rfl); have HN := Aside0.mk (blk_new wr (Obj.cells zs30.toArray 65 (0, 0))); have HA1 := Aside0.mk (ar_below HA.out (below_alloc (Below.refl wr.heap.size wr) (Obj.cells zs30.toArray 65 (0, 0)))); have HBL1 := Aside0.mk (bl_below HBL.out (below_alloc (Below.refl wr.heap.size wr) (Obj.cells zs30.toArray 65 (0, 0)))); have HB1 := Aside0.mk (below_alloc HB.out (Obj.cells zs30.toArray 65 (0, 0))); have HNE := Aside0.mk (Nat.ne_of_lt (ar_lt HA.out)); have HNE2 := Aside0.mk (Nat.ne_of_lt (bl_lt HBL.out)); have HGE := Aside0.mk (below_size HB.out); generalize wr.alloc (Obj.cells zs30.toArray 65 (0, 0)) = w8 at HN HA1 HB1 HBL1 ⊢; generalize wr.heap.size = C at HN HNE HNE2 HGE ⊢)
          | (refine wpList_store_row rfl 65 (.tmp 13) (.tmp 36) rfl C X rfl rfl 65 zs30.toArray HN.out (hd_size65 X HXS.out) (by rw [HXS.out]; rfl) HXA.out ?_; have HA2 := Aside0.mk (ar_setRow HA1.out HNE.out X); have HBL2 := Aside0.mk (bl_setRow HBL1.out HNE2.out X); have HB2 := Aside0.mk (below_setRow HB1.out HGE.out X); have HX2 := Aside0.mk (setRow_heap w8 C zs30.toArray X 65 (0, 0) HN.out); generalize w8.setRow C X = w9 at HA2 HB2 HX2 HBL2 ⊢; clear HN HA1 HB1 HBL1))
        obtain ⟨gko, hgo⟩ : ∃ q, q = gk := ⟨_, rfl⟩
        go_loopg [37] 31 (fun kq v37 w' => ∃ (i : Nat) (zs : List Bool), v37 = .int .i64 (i : Int) ∧ i ≤ 30 ∧ 31 ≤ i + kq ∧ Aside0 (∀ j, j < 30 → zs.getD j false = if j < i then impl_Within.l0 o j (h + 1) else impl_Within.l0 o j h) ∧ Aside0 (BL w' B zs) ∧ Aside0 (w'.heap[C]? = some (.cells X 65 (0, 0))) ∧ Aside0 (AR w' g (hops + 1) cap o) ∧ Aside0 (Below w.heap.size w w'))
        case atStart => exact ⟨0, ys, rfl, by omega, by omega, ⟨fun j hj => by rw [HS.out j hj]; simp⟩, HBL2, HX2, HA2, HB2⟩
        case round =>
          clear HBL2 HX2 HA2 HB2 HS HBL HA HB
          obtain ⟨i, zs, rfl, hi, hgi, HS, HBL, HX, HA, HB⟩ := hrel
          by_cases ci : i < 30
          · have ciz : (i : Int) < 30 := by omega
            have i0 : (0 : Int) ≤ (i : Int) := by omega
            obtain ⟨y, hy⟩ : ∃ q, q = o.getD (h * 30 + i) 0 := ⟨_, rfl⟩
            have hx1 : wr.cell? ⟨C, i, none⟩ = some (.int .i64 y) := by rw [blk_cell HX.out, hy]; exact HXG.out i ci
            obtain ⟨b, hb⟩ : ∃ q, q = zs.getD i false := ⟨_, rfl⟩
            have hb1 : wr.cell? ⟨B, i, none⟩ = some (.bool b) := by rw [hb]; exact (bl_cell HBL.out i ci).1
            have hb2 : wr.frozen? ⟨B, i, none⟩ = false := (bl_cell HBL.out i ci).2
            have HY := Aside0.mk hy
            have HBv := Aside0.mk hb
            clear hy hb
            have HE : Aside0 (impl_Within.l0 o i (h + 1) = (b || decide (y < 100001))) := ⟨by
              have e := HS.out i ci
              rw [if_neg (by omega), ← HBv.out] at e
              rw [impl_Within.l0, ← e, ← HY.out]⟩
            have HSN : Aside0 (∀ q : Bool, q = (b || decide (y < 100001)) → ∀ j, j < 30 → (zs.set i q).getD j false = if j < i + 1 then impl_Within.l0 o j (h + 1) else impl_Within.l0 o j h) := ⟨fun q hq j hj => by
              have hl := HBL.out.1
              have e := HS.out j hj
              rw [List.getD_eq_getElem?_getD, List.getElem?_set]
              by_cases ej : i = j
              · subst ej
                rw [if_pos rfl, if_pos (by omega), if_pos (by omega), HE.out, hq]; rfl
              · rw [if_neg ej, ← List.getD_eq_getElem?_getD, e]
                by_cases el : j < i
                · rw [if_pos el, if_pos (by omega)]
                · rw [if_neg el, if_neg (by omega)]⟩
            have HBS : Aside0 (∀ q : Bool, BL (wr.setCell ⟨B, i, none⟩ (.bool q)) B (zs.set i q)) := ⟨fun q => bl_set HBL.out i q⟩
            have HXS2 : Aside0 (∀ q : Bool, (wr.setCell ⟨B, i, none⟩ (.bool q)).heap[C]? = some (.cells X 65 (0, 0))) := ⟨fun q => blk_far HX.out (p := ⟨B, i, none⟩) (Ne.symm HNE2.out) _⟩
            have HAS2 : Aside0 (∀ q : Bool, AR (wr.setCell ⟨B, i, none⟩ (.bool q)) g (hops + 1) cap o) := ⟨fun q => ar_far HA.out (Ne.symm HNE0.out) i _⟩
            have HBB2 : Aside0 (∀ q : Bool, Below w.heap.size w (wr.setCell ⟨B, i, none⟩ (.bool q))) := ⟨fun q => below_set HB.out HGE0.out⟩
            clear HS HBL HX HA HB HE HY HBv
            cases b with
            | true =>
              go_wp2
              go_roundg (gk - 1)
              case measure => omega
              case rel => exact ⟨i + 1, zs.set i true, by go_num, by omega, by omega, ⟨HSN.out true (by simp)⟩, ⟨HBS.out true⟩, ⟨HXS2.out true⟩, ⟨HAS2.out true⟩, ⟨HBB2.out true⟩⟩
            | false =>
              by_cases cy : y < 100001
              · have cd : decide (y < 100001) = true := decide_eq_true cy
                go_wp2
                go_roundg (gk - 1)
                case measure => omega
                case rel => exact ⟨i + 1, zs.set i true, by go_num, by omega, by omega, ⟨HSN.out true (by simp [cy])⟩, ⟨HBS.out true⟩, ⟨HXS2.out true⟩, ⟨HAS2.out true⟩, ⟨HBB2.out true⟩⟩
              · have cd : decide (y < 100001) = false := decide_eq_false cy
                go_wp2
                go_roundg (gk - 1)
                case measure => omega
                case rel => exact ⟨i + 1, zs.set i false, by go_num, by omega, by omega, ⟨HSN.out false (by simp [cy])⟩, ⟨HBS.out false⟩, ⟨HXS2.out false⟩, ⟨HAS2.out false⟩, ⟨HBB2.out false⟩⟩
          · have ciz : ¬ (i : Int) < 30 := by omega
            have he : i = 30 := by omega
            subst he
            have HS2 : Aside0 (∀ j, j < 30 → zs.getD j false = impl_Within.l0 o j (h + 1)) := ⟨fun j hj => by rw [HS.out j hj, if_pos hj]⟩
            clear HS HX
            go_wp2
            go_roundg (gko - 1)
            case measure => omega
            case rel => exact ⟨h + 1, zs, by go_num, by omega, by omega, HS2, HBL, HA, HB⟩
      · have cz : ¬ (h : Int) < (hops : Int) + 1 := by omega
        have he : h = hops + 1 := by omega
        subst he
        obtain ⟨X8, hX8⟩ : ∃ q, q = (ys.map Value.bool).toArray := ⟨_, rfl⟩
        have HXL : Aside0 (∀ W : World, BL W B ys → Sem.run Try.prog (loadCells ⟨B, 0, none⟩ 30) W = .ok X8 W) := ⟨fun W hW => by rw [hX8]; exact bl_row hW⟩
        have HXG : Aside0 (∀ i, i < 30 → X8[i]? = some (.bool (impl_Within.l0 o i (hops + 1)))) := ⟨fun i hi => by
          have hl := HBL.out.1
          rw [hX8, ← HS.out i hi]
          simp [List.getD_eq_getElem?_getD, show i < ys.length by omega]⟩
        clear hX8
        go_wp2_with (first
          | ((with_reducible refine gate_dst (N := 53) rfl ?_); refine Kd.R_lit (Kd.int .i64) _ 3 ?hg (N := 53) ?hd (xs := ([] : List Int)) (inner := []) (ok := fun _ => True) (okp := fun _ => True) ?hr ?hp (fun _ hk => hk) trivial (Below.refl _ _) (Nat.le_refl _) (by simp) ?_; (case hd => rfl); (case hg => rfl); (case hr => first | (go_simp; done) | (go_simp; rfl)); (case hp => exact (Reps.none _ _)); intro v53 w10 ho11 hb hg_ hnew_; clear hg_ hnew_; have n0_ := Aside0.mk (Kd.R_lower ho11 (below_size (by repeat (first | (with_reducible first | exact HB.out | apply below_alloc | apply pw_below_drewN | apply below_drew1) | exact HB.out)))); have n1_ := Aside0.mk (below_step (by repeat (first | (with_reducible first | exact HB.out | apply below_alloc | apply pw_below_drewN | apply below_drew1) | exact HB.out)) hb); have n2_ := Aside0.mk (bl_below HBL.out hb); clear HB; clear HBL; have HO1 := n0_; have HB := n1_; have HBL := n2_; clear n0_ n1_ n2_; clear hb ho11)
          | ((with_reducible refine gate_dst (N := 54) rfl ?_); refine Kd.event_run ?hgd (hd_exec68 _ _ _ _ X8 11 rfl rfl (HXL.out _ HBL.out)) ?_; (case hgd => rfl)))
        go_loopg [15, 55] 31 (fun kq v15 v55 w' => ∃ (i : Nat), v55 = .int .i64 (i : Int) ∧ i ≤ 30 ∧ 31 ≤ i + kq ∧ Aside0 (Kd.R (Kd.int .i64) 3 w' w.heap.size (fun _ => True) v15 (impl_Within.l1 o (hops + 1) i)) ∧ Aside0 (Below w.heap.size w w'))
        case atStart => exact ⟨0, rfl, by omega, by omega, ⟨by (with_reducible repeat (first | apply Kd.R_alloc | apply Kd.R_drewN | apply Kd.R_drew)); exact HO1.out⟩, ⟨by repeat (first | (with_reducible first | exact HB.out | apply below_alloc | apply pw_below_drewN | apply below_drew1) | exact HB.out)⟩⟩
        case round =>
          clear HO1 HB HBL HA
          obtain ⟨i, rfl, hi, hgi, HO1, HB⟩ := hrel
          have HLN : Aside0 ((impl_Within.l1 o (hops + 1) i).length ≤ i) := ⟨by
            clear HO1 hgi
            induction i with
            | zero => simp [impl_Within.l1]
            | succ i ih =>
              have := ih (by omega)
              rw [impl_Within.l1]
              split
              · simp; omega
              · omega⟩
          by_cases ci : i < 30
          · have ciz : (i : Int) < 30 := by omega
            have i0 : (0 : Int) ≤ (i : Int) := by omega
            obtain ⟨b, hb⟩ : ∃ q, q = impl_Within.l0 o i (hops + 1) := ⟨_, rfl⟩
            have hx1 : X8[i]? = some (.bool b) := by rw [hb]; exact HXG.out i ci
            have HL : Aside0 (impl_Within.l1 o (hops + 1) (i + 1) = if b = true then impl_Within.l1 o (hops + 1) i ++ [(i : Int)] else impl_Within.l1 o (hops + 1) i) := ⟨by rw [impl_Within.l1, hb]⟩
            clear hb
            obtain ⟨L, hL⟩ : ∃ q, q = impl_Within.l1 o (hops + 1) i := ⟨_, rfl⟩
            rw [← hL] at HL HO1 HLN
            clear hL
            cases b with
            | true =>
              go_wp2_with (first
                | ((with_reducible refine gate_dst (N := 58) rfl ?_); refine Kd.event_run ?hgd (hd_exec_ix68 _ _ _ X8 i ci true 54 55 rfl rfl rfl hx1) ?_; (case hgd => rfl))
                | ((with_reducible refine gate_builtin (b := .append) (xs := #[.tmp 60, .tmp 62]) rfl ?_); at_builtin; refine Kd.R_append (Kd.int .i64) (w0 := w) w.heap.size rfl (.tmp 60) (.tmp 62) 34 3 (.int .i64 0) 8 rfl Try.underlying34 info3 rfl (by decide) (by omega) u15 L (i : Int) [.int .i64 (i : Int)] (fun _ => True) (fun _ => False) rfl rfl ?aP (fun _ hk => hk.elim) ?aF ?aO ?aB ?aS ?aL ?_; (case aP => exact rfl); (case aB => exact (by repeat (first | (with_reducible first | exact HB.out | apply below_alloc | apply pw_below_drewN | apply below_drew1) | exact HB.out))); (case aF => exact (fun _ _ => trivial)); (case aO => exact (by (with_reducible repeat (first | apply Kd.R_alloc | apply Kd.R_drewN | apply Kd.R_drew)); exact HO1.out)); (case aS => exact (below_size (by repeat (first | (with_reducible first | exact HB.out | apply below_alloc | apply pw_below_drewN | apply below_drew1) | exact HB.out)))); (case aL => have := HLN.out; omega); intro v204 w18 ho hb hg hat; have n1_ := Aside0.mk (hb); have n2_ := Aside0.mk (ho); clear HB; clear HO1; have HB := n1_; have HO1 := n2_; clear n1_ n2_; clear ho hb hg hat))
              go_roundg (gk - 1)
              case measure => omega
              case rel => exact ⟨i + 1, by go_num, by omega, by omega, ⟨by rw [HL.out]; first | exact HO1.out | (rw [if_pos rfl]; exact HO1.out) | (simp only [if_true]; exact HO1.out)⟩, HB⟩
            | false =>
              go_wp2_with ((with_reducible refine gate_dst (N := 58) rfl ?_); refine Kd.event_run ?hgd (hd_exec_ix68 _ _ _ X8 i ci false 54 55 rfl rfl rfl hx1) ?_; (case hgd => rfl))
              go_roundg (gk - 1)
              case measure => omega
              case rel => exact ⟨i + 1, by go_num, by omega, by omega, ⟨by rw [HL.out]; (first | rw [if_neg (by decide)] | simp only [Bool.false_eq_true, if_false] | skip); (with_reducible repeat (first | apply Kd.R_alloc | apply Kd.R_drewN | apply Kd.R_drew)); exact HO1.out⟩, ⟨by repeat (first | (with_reducible first | exact HB.out | apply below_alloc | apply pw_below_drewN | apply below_drew1) | exact HB.out)⟩⟩
          · have ciz : ¬ (i : Int) < 30 := by omega
            have he : i = 30 := by omega
            subst he
            rw [HRES.out] at HO1
            go_wp2
            go_ret
            exact ⟨_, rfl, HO1.out, HB.out⟩
end Go.Proofs.Ytdpjoblnjjkbfaa.P

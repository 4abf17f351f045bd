/- Contracts of the functions of the program, each one with its plain Lean function; written by a program of the session out of the translation. -/
import Derived.Test.YtoalolbifakpiaaPx0
import Derived.Test.YtoalolbifakpiaaPx6
namespace Go.Proofs.Ytoalolbifakpiaa.P
open Go.RowKit Go.Proofs.YtoalolbifakpiaaW.PrintWords Go.Proofs.YtoalolbifakpiaaW.PrintLast Go.Proofs.YtoalolbifakpiaaW.PrintMore
attribute [local go_sem] max2_int min2_int max_two min_two max_three min_three max_four min_four   -- for this text's walks alone
set_option linter.unusedVariables false
set_option linter.unusedSimpArgs false

/-! ### impl_Balanced: function 36, by hand -/
/-- One count more, or less. -/
theorem impl_Balanced.mono : ∀ a0 k, LeO (impl_Balanced.f k a0) (impl_Balanced.f (k + 1) a0) := fun a0 k => LeO.bind (impl_TasksOk.mono a0 k) (fun _ => LeO.refl _)

theorem hd_load_list (P : Program) (W : World) (a : Addr) (cs : List Value) (k : Nat) (hk : cs.length = k) (h : ∀ j v, cs[j]? = some v → W.cell? (a.add j) = some v) :
    Sem.run P (loadCells a k) W = .ok cs.toArray W := by
  have := run_loadCells_list (P := P) (w := W) a cs h
  rw [hk] at this
  exact this
theorem hd_load69 (W : World) (B : Nat) (X : Array Value) (h : Sem.run Try.prog (loadCells ⟨B, 0, none⟩ 30) W = .ok X W) : (Instr.loadAt 69 (.pointer (some ⟨B, 0, none⟩))).run Try.prog W = .ok (.agg X) W := by
  have hu69 := Try.underlying69
  have hs : (Go.sizeOf 69).run Try.prog W = .ok 30 W := by first | exact Try.sizeOf69 W | (go_simp; done) | (simp [Go.sizeOf]; done)
  have ha : (isAgg 69).run Try.prog W = .ok true W := by first | exact Try.isAgg69 W | (go_simp; done)
  simp only [Instr.loadAt, loadVar, Instr.sureAddr, Sem.run_bind, Sem.run_pure, Result.andThen_ok, ha, hs, h, if_true, Sem.run_ite]
theorem hd_exec69 (a : Act) (o : Oper) (W : World) (B : Nat) (X : Array Value) (t : Tmp) (ho : o.op = .load 69 (.tmp t)) (ht : a.eval (.tmp t) = .pointer (some ⟨B, 0, none⟩)) (h : Sem.run Try.prog (loadCells ⟨B, 0, none⟩ 30) W = .ok X W) : (execOp a.eval o).run Try.prog W = .ok (.value (.agg X)) W := by
  have hl := hd_load69 W B X h
  unfold execOp
  rw [ho]
  simp only [ht, Sem.run_bind, hl, Result.andThen_ok, Sem.run_pure]
theorem hd_part3 (W : World) (l : List Int) (i : Nat) (h : i < l.length) : (part 3 (l.map (Value.int .i64)).toArray (i * 1)).run Try.prog W = .ok (.int .i64 (l.getD i 0)) W := by
  have ha : (isAgg 3).run Try.prog W = .ok false W := by first | exact Try.isAgg3 W | (go_simp; done)
  unfold part
  simp only [Sem.run_bind, ha, Result.andThen_ok, Bool.false_eq_true, if_false, Sem.run_ite, Nat.mul_one]
  simp [List.getD_eq_getElem?_getD, h]
theorem hd_eq3 (W : World) (d : Nat) (x y : Int) : (Op.equalIn (d + 1) 3 (.int .i64 x) (.int .i64 y)).run Try.prog W = .ok (x == y) W := by
  have hu := Try.underlying3
  simp [Op.equalIn, Sem.run_bind, run_underlying hu]
theorem hd_items3 (W : World) (d : Nat) (xs ys : List Int) (hx : xs.length = 30) (hy : ys.length = 30) : ∀ is : List Nat, (∀ i, i ∈ is → i < 30) →
    (Op.eqItems (d + 1) 3 1 (xs.map (Value.int .i64)).toArray (ys.map (Value.int .i64)).toArray is).run Try.prog W = .ok (is.all fun i => xs.getD i 0 == ys.getD i 0) W
  | [], _ => by simp [Op.eqItems]
  | i :: is, h => by
    have hi := h i (by simp)
    have ih := hd_items3 W d xs ys hx hy is (fun j hj => h j (by simp [hj]))
    simp only [Op.eqItems, Sem.run_bind, hd_part3 W xs i (by omega), hd_part3 W ys i (by omega), hd_eq3, Result.andThen_ok, List.all_cons, Sem.run_ite, ih, Sem.run_pure]
    cases xs.getD i 0 == ys.getD i 0 <;> simp
theorem hd_eq69 (W : World) (xs : List Int) (hx : xs.length = 30) : (Op.equalIn 10000 69 (.agg (xs.map (Value.int .i64)).toArray) (.agg ((List.replicate 30 (0 : Int)).map (Value.int .i64)).toArray)).run Try.prog W = .ok (xs.all fun x => decide (x = 0)) W := by
  have hsome : (Try.prog.info? 3).isSome = true := by kernel_rfl
  obtain ⟨i3, hi3⟩ := Option.isSome_iff_exists.1 hsome
  have hc3 : Try.prog.cellsOf 3 = 1 := by kernel_rfl
  have h := run_equalIn_array (P := Try.prog) W 9999 (t := 69) (e := 3) (n := 30) (xs.map (Value.int .i64)).toArray ((List.replicate 30 (0 : Int)).map (Value.int .i64)).toArray Try.underlying69 hi3
  rw [hc3, hd_items3 W 9998 xs (List.replicate 30 0) hx (by simp) (List.range 30) (fun i hi => by simpa using hi)] at h
  rw [h]
  congr 1
  have hz : ∀ i, (List.replicate 30 (0 : Int)).getD i 0 = 0 := by
    intro i
    simp only [List.getD_eq_getElem?_getD, List.getElem?_replicate]
    split <;> rfl
  simp only [hz]
  rw [Bool.eq_iff_iff, List.all_eq_true, List.all_eq_true]
  constructor
  · intro h x hx'
    obtain ⟨i, hi, rfl⟩ := List.mem_iff_getElem.1 hx'
    have := h i (by simp; omega)
    simpa [List.getD_eq_getElem?_getD, hi, show i < 30 by omega] using this
  · intro h i hi
    have hi' : i < 30 := by simpa using hi
    have := h (xs.getD i 0) (by simp [List.getD_eq_getElem?_getD, show i < xs.length by omega])
    simpa [List.getD_eq_getElem?_getD, hi', show i < xs.length by omega] using this
theorem hd_w64k (k : Nat) (h : k < 40) : wrap64 ((k : Int) + 1) = ((k + 1 : Nat) : Int) := by
  unfold wrap64; omega
set_option maxHeartbeats 4000000 in
theorem impl_Balanced.calls (k : Nat) (A0 : Option Addr) (c0 : Nat) (l0 : List (S25)) (r : Bool) (w : World) (hr0 : Kd.C k25 w A0 l0.length l0) (hc0 : l0.length ≤ c0) (h : impl_Balanced.f k l0 = some r) :
    Calls Try.prog 36 #[.slice A0 l0.length c0] w fun e w' => e = .returned (.bool r) ∧ Below w.heap.size w w' := by
  have hu25 := Try.underlying25
  have hu69 := Try.underlying69
  obtain ⟨t, ht, h2⟩ := Option.bind_eq_some_iff.1 h
  clear h
  have HR := Aside0.mk hr0
  have HC := Aside0.mk hc0
  have HT := Aside0.mk ht
  clear hr0 hc0 ht
  cases t with
  | false =>
    obtain rfl : false = r := by simpa using h2
    go_enter Try.func36, Try.ntmps36
    go_wp2_with (go_at_call 22; refine (impl_TasksOk.calls k A0 c0 l0 false _ (by first | exact HR.out | exact Kd.C_drew HR.out | exact Kd.C_drewN HR.out _) HC.out HT.out).mono ?_; rintro e w1 ⟨rfl, hb1⟩)
    go_ret
    exact ⟨rfl, hb1⟩
  | true =>
    simp only [if_true] at h2
    have h40 : Aside0 (l0.length ≤ 40) := ⟨by
      have := HT.out
      unfold impl_TasksOk.f at this
      split at this
      · simp at this
      · omega⟩
    have HF := Aside0.mk h2
    clear h2
    go_enter Try.func36, Try.ntmps36
    go_wp2_with (go_at_call 22; refine (impl_TasksOk.calls k A0 c0 l0 true _ (by first | exact HR.out | exact Kd.C_drew HR.out | exact Kd.C_drewN HR.out _) HC.out HT.out).mono ?_; rintro e w1 ⟨rfl, hb1⟩)
    have HB := Aside0.mk hb1
    have GB := Aside0.mk hb1.size
    clear hb1
    go_loopg [5, 11] l0.length (fun gg _ s11 wr => ∃ (kk : Nat) (xs : List Int), kk ≤ l0.length ∧ l0.length - kk ≤ gg ∧ s11 = .int .i64 kk ∧ Aside0 (xs.length = 30) ∧ Aside0 (wr.heap[w1.heap.size]? = some (.cells (xs.map (Value.int .i64)).toArray 69 (0, 0))) ∧ Aside0 (w1.heap.size < wr.heap.size) ∧ Aside0 (Below w.heap.size w wr) ∧ Aside0 (impl_Balanced.l0 (l0.drop kk) xs = some r))
    case atStart =>
      refine ⟨0, List.replicate 30 0, Nat.zero_le _, by omega, rfl, ⟨by simp⟩, ⟨?_⟩, ⟨?_⟩, ⟨?_⟩, ⟨HF.out⟩⟩
      · exact blk_new w1 _
      · simp
      · exact below_alloc HB.out _
    case round =>
      clear HB
      obtain ⟨kk, xs, hkk, hg, rfl, hx30, BA, BL, HB, HX⟩ := hrel
      obtain ⟨B, hB⟩ : ∃ B, w1.heap.size = B := ⟨_, rfl⟩
      rw [hB] at BA BL GB ⊢
      by_cases hlt : kk < l0.length
      · have hltz : (kk : Int) < (l0.length : Int) := by omega
        have hnn : (0 : Int) ≤ (kk : Int) := Int.natCast_nonneg kk
        obtain ⟨ad, e, hx0, hx1, hx2, hx3, hx4⟩ := at_T25 HR.out kk hnn hltz
        cases e
        rw [Int.toNat_natCast] at hx0 hx1 hx2 hx3 hx4
        replace hx0 := (HB.out.cell (World.block_lt_of_cell? w _ hx0)).trans hx0
        replace hx1 := (HB.out.cell (World.block_lt_of_cell? w _ hx1)).trans hx1
        replace hx2 := (HB.out.cell (World.block_lt_of_cell? w _ hx2)).trans hx2
        replace hx3 := (HB.out.cell (World.block_lt_of_cell? w _ hx3)).trans hx3
        replace hx4 := (HB.out.cell (World.block_lt_of_cell? w _ hx4)).trans hx4
        have hd : l0.drop kk = rd_T25 l0 kk :: l0.drop (kk + 1) := by
          rw [List.drop_eq_getElem_cons hlt]
          unfold rd_T25
          simp [List.getD_eq_getElem?_getD, hlt]
        have hX := HX.out
        rw [hd, impl_Balanced.l0] at hX
        clear HX hd
        obtain ⟨y, hy⟩ : ∃ y, rd_T25 l0 kk = y := ⟨_, rfl⟩
        rw [hy] at hX hx0 hx1 hx2 hx3 hx4
        clear hy
        by_cases hr4 : 0 ≤ y.f0 ∧ y.f0 < 30 ∧ 0 ≤ y.f1 ∧ y.f1 < 30
        rotate_left
        · rw [if_neg hr4] at hX
          exact absurd hX (by simp)
        rw [if_pos hr4] at hX
        have HX := Aside0.mk hX
        clear hX
        obtain ⟨r0, r1, r2, r3⟩ := hr4
        obtain ⟨i0, hi0⟩ : ∃ i0 : Nat, y.f0 = (i0 : Int) := ⟨y.f0.toNat, by omega⟩
        obtain ⟨i1, hi1⟩ : ∃ i1 : Nat, y.f1 = (i1 : Int) := ⟨y.f1.toNat, by omega⟩
        rw [hi0] at HX hx0 r0 r1
        rw [hi1] at HX hx1 r2 r3
        have li0 : i0 < 30 := by omega
        have li1 : i1 < 30 := by omega
        go_upto_region 7 with (fail)
        have n0_ := Aside0.mk (blk_alloc BA.out (Obj.cells #[.int .i64 (i0 : Int), .int .i64 (i1 : Int), .int .i64 y.f2, .int .i64 y.f3, .int .i64 y.f4] 25 (0, 0)))
        have n1_ := Aside0.mk (blk_new wr (Obj.cells #[.int .i64 (i0 : Int), .int .i64 (i1 : Int), .int .i64 y.f2, .int .i64 y.f3, .int .i64 y.f4] 25 (0, 0)))
        have n2_ := Aside0.mk (below_alloc HB.out (Obj.cells #[.int .i64 (i0 : Int), .int .i64 (i1 : Int), .int .i64 y.f2, .int .i64 y.f3, .int .i64 y.f4] 25 (0, 0)))
        have n3_ := Aside0.mk (Nat.ne_of_lt BL.out)
        have n4_ := Aside0.mk (show B < (wr.alloc (Obj.cells #[.int .i64 (i0 : Int), .int .i64 (i1 : Int), .int .i64 y.f2, .int .i64 y.f3, .int .i64 y.f4] 25 (0, 0))).heap.size from blk_lt n0_.out)
        clear BA HB BL hx0 hx1 hx2 hx3 hx4
        generalize wr.alloc (Obj.cells #[.int .i64 (i0 : Int), .int .i64 (i1 : Int), .int .i64 y.f2, .int .i64 y.f3, .int .i64 y.f4] 25 (0, 0)) = w8 at n0_ n1_ n2_ n4_ ⊢
        generalize wr.heap.size = gb at n1_ n3_ ⊢
        have BA := n0_
        have BK := n1_
        have HB := n2_
        have NE := n3_
        have BL := n4_
        clear n0_ n1_ n2_ n3_ n4_
        obtain ⟨v0, hv0⟩ : ∃ v, xs.getD i0 0 = v := ⟨_, rfl⟩
        obtain ⟨xs1, hxs1⟩ : ∃ z, impl_Balanced.l1 xs (i0 : Int) 1 = z := ⟨_, rfl⟩
        have hs1 := Aside0.mk (show xs1 = xs.set i0 (wrap64 (v0 + 1)) by rw [← hxs1, ← hv0]; rfl)
        rw [hxs1] at HX
        have hG0 : w8.cell? ⟨gb, 0, none⟩ = some (.int .i64 (i0 : Int)) := (blk_cell BK.out 0).trans rfl
        have hA0 : w8.cell? ⟨B, i0, none⟩ = some (.int .i64 v0) := (blk_cell BA.out i0).trans (by have := hx30.out; rw [← hv0]; simp [List.getD_eq_getElem?_getD, this, li0])
        have hf0 := blk_frozen BA.out i0
        clear hxs1 hv0
        go_upto_region 8 with (fail)
        have n0_ := Aside0.mk (blk_put BA.out i0 (.int .i64 (wrap64 (v0 + 1))) (cs' := (xs1.map (Value.int .i64)).toArray) (by rw [hs1.out]; simp [List.map_set]))
        have n1_ := Aside0.mk (blk_far BK.out (p := ⟨B, i0, none⟩) (fun h => NE.out h.symm) (.int .i64 (wrap64 (v0 + 1))))
        have n2_ := Aside0.mk (below_set HB.out GB.out : Below w.heap.size w (w8.setCell ⟨B, i0, none⟩ (.int .i64 (wrap64 (v0 + 1)))))
        have hx31 := Aside0.mk (show xs1.length = 30 by rw [hs1.out]; simp [hx30.out])
        clear BA BK HB hG0 hA0 hf0
        generalize w8.setCell ⟨B, i0, none⟩ (.int .i64 (wrap64 (v0 + 1))) = w9 at n0_ n1_ n2_ ⊢
        have BA := n0_
        have BK := n1_
        have HB := n2_
        clear n0_ n1_ n2_ BL
        obtain ⟨v1, hv1⟩ : ∃ v, xs1.getD i1 0 = v := ⟨_, rfl⟩
        obtain ⟨xs2, hxs2⟩ : ∃ z, impl_Balanced.l1 xs1 (i1 : Int) (-1) = z := ⟨_, rfl⟩
        have hs2 := Aside0.mk (show xs2 = xs1.set i1 (wrap64 (v1 - 1)) by rw [← hxs2, ← hv1]; rfl)
        rw [hxs2] at HX
        have hG1 : w9.cell? ⟨gb, 1, none⟩ = some (.int .i64 (i1 : Int)) := (blk_cell BK.out 1).trans rfl
        have hA1 : w9.cell? ⟨B, i1, none⟩ = some (.int .i64 v1) := (blk_cell BA.out i1).trans (by have := hx31.out; rw [← hv1]; simp [List.getD_eq_getElem?_getD, this, li1])
        have hf1 := blk_frozen BA.out i1
        clear hxs2 hv1
        go_upto_region 9 with (fail)
        have n0_ := Aside0.mk (blk_put BA.out i1 (.int .i64 (wrap64 (v1 - 1))) (cs' := (xs2.map (Value.int .i64)).toArray) (by rw [hs2.out]; simp [List.map_set]))
        have n2_ := Aside0.mk (below_set HB.out GB.out : Below w.heap.size w (w9.setCell ⟨B, i1, none⟩ (.int .i64 (wrap64 (v1 - 1)))))
        have hx32 := Aside0.mk (show xs2.length = 30 by rw [hs2.out]; simp [hx31.out])
        clear BA BK HB hG1 hA1 hf1
        generalize w9.setCell ⟨B, i1, none⟩ (.int .i64 (wrap64 (v1 - 1))) = w10 at n0_ n2_ ⊢
        have BA := n0_
        have HB := n2_
        clear n0_ n2_
        have hw := hd_w64k kk (by have := h40.out; omega)
        go_wp2
        subst hB
        go_roundg (l0.length - (kk + 1))
        case measure => omega
        case rel => exact ⟨kk + 1, xs2, by omega, by omega, by rw [hw], hx32, BA, ⟨blk_lt BA.out⟩, HB, HX⟩
      · have hltz : ¬ (kk : Int) < (l0.length : Int) := by omega
        have hX := HX.out
        rw [show l0.drop kk = [] from List.drop_of_length_le (by omega), impl_Balanced.l0] at hX
        have hr := Aside0.mk (Option.some.inj hX)
        clear hX HX
        go_upto_region 10 with (fail)
        have hload : Sem.run Try.prog (loadCells ⟨B, 0, none⟩ 30) wr = .ok (xs.map (Value.int .i64)).toArray wr :=
          hd_load_list Try.prog wr ⟨B, 0, none⟩ (xs.map (Value.int .i64)) 30 (by simp [hx30.out]) (fun j v hj => by
            have := blk_cell BA.out j
            rw [show (⟨B, 0, none⟩ : Addr).add j = ⟨B, j, none⟩ from (by simp [Addr.add]; intro h; exact h.symm), this]
            simpa using hj)
        have heq := hd_eq69 wr xs hx30.out
        obtain ⟨X, hX⟩ : ∃ X, (xs.map (Value.int .i64)).toArray = X := ⟨_, rfl⟩
        rw [hX, show ((List.replicate 30 (0 : Int)).map (Value.int .i64)).toArray = #[.int .i64 0, .int .i64 0, .int .i64 0, .int .i64 0, .int .i64 0, .int .i64 0, .int .i64 0, .int .i64 0, .int .i64 0, .int .i64 0, .int .i64 0, .int .i64 0, .int .i64 0, .int .i64 0, .int .i64 0, .int .i64 0, .int .i64 0, .int .i64 0, .int .i64 0, .int .i64 0, .int .i64 0, .int .i64 0, .int .i64 0, .int .i64 0, .int .i64 0, .int .i64 0, .int .i64 0, .int .i64 0, .int .i64 0, .int .i64 0] from rfl, hr.out] at heq
        rw [hX] at hload
        have HL := Aside0.mk hload
        have HE := Aside0.mk heq
        clear hload heq BA
        go_wp2_with (first | ((with_reducible refine gate_dst (N := 28) rfl ?_); refine Kd.event_run ?hgd (hd_exec69 _ _ _ B X 3 rfl rfl HL.out) ?_; (case hgd => rfl); have heq := HE.out))
        go_ret
        exact ⟨rfl, HB.out⟩

end Go.Proofs.Ytoalolbifakpiaa.P

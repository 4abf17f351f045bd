/- Contracts of the functions of the program, each one with its plain Lean function; written by a program of the session out of the translation. -/
import Derived.Test.YtklikbjlfaednaaPx0
import Derived.Test.YtklikbjlfaednaaPx3
namespace Go.Proofs.Ytklikbjlfaednaa.P
open Go.RowKit Go.Proofs.YtklikbjlfaednaaW.PrintWords Go.Proofs.YtklikbjlfaednaaW.PrintLast Go.Proofs.YtklikbjlfaednaaW.PrintMore
attribute [local go_sem] max2_int min2_int max_two min_two max_three min_three max_four min_four   -- for this text's walks alone
set_option linter.unusedVariables false
set_option linter.unusedSimpArgs false

/-! ### impl_Train_held: function 57, by hand -/

def hd_HK (n : Nat) (l : List S66) (xs : List Bool) (i : Nat) : Prop := xs.length = (n * 11) ∧ ∀ s p : Nat, s < n → p < 11 → xs.getD (s * 11 + p) false = (l.take i).any (impl_TrainOk.l4 s p)
def hd_HI (n : Nat) (l : List S66) (xs : List Bool) (i k : Nat) : Prop := xs.length = (n * 11) ∧ ∀ s p : Nat, s < n → p < 11 → xs.getD (s * 11 + p) false = ((l.take i).any (impl_TrainOk.l4 s p) || (decide ((rd_T66 l (i : Int)).f1 = (s : Int)) && decide ((rd_T66 l (i : Int)).f2 ≤ (p : Int)) && decide (p < k)))
theorem hd_hk_start (n : Nat) (l : List S66) : hd_HK n l (List.replicate (n * 11) false) 0 := by
  refine ⟨List.length_replicate, fun s p hs hp => ?_⟩
  rw [List.getD_eq_getElem?_getD, List.getElem?_replicate]
  split <;> simp
theorem hd_hi_start {n : Nat} {l : List S66} {xs : List Bool} {i k : Nat} (h : hd_HK n l xs i) (hk : (rd_T66 l (i : Int)).f2 = (k : Int)) : hd_HI n l xs i k := by
  refine ⟨h.1, fun s p hs hp => ?_⟩
  rw [h.2 s p hs hp]
  have : (decide ((rd_T66 l (i : Int)).f2 ≤ (p : Int)) && decide (p < k)) = false := by
    rw [Bool.and_eq_false_iff]
    by_cases e : p < k
    · left; rw [decide_eq_false_iff_not]; omega
    · right; rw [decide_eq_false_iff_not]; exact e
  rw [Bool.and_assoc, this, Bool.and_false, Bool.or_false]
theorem hd_hi_end {n : Nat} {l : List S66} {xs : List Bool} {i k : Nat} (h : hd_HI n l xs i k) (hi : i < l.length) (hk : (rd_T66 l (i : Int)).f3 = (k : Int)) : hd_HK n l xs (i + 1) := by
  refine ⟨h.1, fun s p hs hp => ?_⟩
  rw [h.2 s p hs hp, List.take_succ_eq_append_getElem hi, List.any_append]
  have e : l[i] = rd_T66 l (i : Int) := by simp [rd_T66, List.getD_eq_getElem?_getD, hi]
  rw [e]
  simp only [List.any_cons, List.any_nil, Bool.or_false, impl_TrainOk.l4, hk]
  congr 2
  rw [decide_eq_decide]
  omega
theorem hd_hi_step {n : Nat} {l : List S66} {xs : List Bool} {i k s0 : Nat} (h : hd_HI n l xs i k) (hs0 : (rd_T66 l (i : Int)).f1 = (s0 : Int)) (h1 : s0 < n) (hk : k < 11) (h2 : (rd_T66 l (i : Int)).f2 ≤ (k : Int)) : hd_HI n l (xs.set (s0 * 11 + k) true) i (k + 1) := by
  refine ⟨by simp [h.1], fun s p hs hp => ?_⟩
  by_cases e : s0 * 11 + k = s * 11 + p
  · have e1 : s = s0 := by omega
    have e2 : p = k := by omega
    subst e1; subst e2
    rw [hs0]
    have : (xs.set (s * 11 + p) true).getD (s * 11 + p) false = true := by
      simp [List.getD_eq_getElem?_getD, h.1, show s * 11 + p < n * 11 by omega]
    rw [this]
    simp [h2]
  · have : (xs.set (s0 * 11 + k) true).getD (s * 11 + p) false = xs.getD (s * 11 + p) false := by
      simp [List.getD_eq_getElem?_getD, List.getElem?_set, e]
    rw [this, h.2 s p hs hp]
    congr 1
    rw [Bool.and_assoc, Bool.and_assoc]
    by_cases e1 : (s : Int) = s0
    · have e2 : p ≠ k := by omega
      have : decide (p < k) = decide (p < k + 1) := by rw [decide_eq_decide]; omega
      rw [this]
    · have : decide ((rd_T66 l (i : Int)).f1 = (s : Int)) = false := by rw [decide_eq_false_iff_not, hs0]; omega
      rw [this, Bool.false_and, Bool.false_and]
def hd_heldPost (n : Nat) (l : List S66) (w w' : World) (e : Ending) : Prop := ∃ (B : Nat) (xs : List Bool), e = .returned (.slice (some ⟨B, 0, none⟩) n n) ∧ w'.heap[B]? = some (.cells (xs.map Value.bool).toArray 68 (0, 0)) ∧ w.heap.size ≤ B ∧ hd_HK n l xs l.length ∧ Below w.heap.size w w'
theorem hd_made (m : Nat) : madeCells (List.replicate 11 (Value.bool false)).toArray m = ((List.replicate m false).map Value.bool).toArray := by
  apply Array.ext
  · simp [size_madeCells]
  · intro i h1 h2
    have hi : i < m := by simpa [size_madeCells] using h1
    have hm : i % 11 < 11 := Nat.mod_lt _ (by omega)
    simp only [madeCells, Array.getElem_map, Array.getElem_range, List.size_toArray, List.length_replicate, List.getElem_toArray, List.map_replicate, List.getElem_replicate]
    rw [getElem!_pos _ _ (by simpa using hm)]
    simp only [List.getElem_toArray, List.getElem_replicate]
theorem hd_z68 : (Try.prog.info? 68).map (fun i => (i.zero, i.size, i.bytes)) = some (some (.agg (List.replicate 11 (Value.bool false)).toArray), 11, 11) := by kernel_rfl
theorem hd_make76 (n : Nat) (hn : n ≤ 60) (W : World) : (Instr.makeSlice 76 (.int .i64 (n : Int)) (.int .i64 (n : Int))).run Try.prog W = .ok (.slice (some ⟨W.heap.size, 0, none⟩) n n) (W.alloc (.cells ((List.replicate (n * 11) false).map Value.bool).toArray 68 (0, 0))) := by
  obtain ⟨i, hi, h3⟩ := Option.map_eq_some_iff.1 hd_z68
  obtain ⟨hz, hs, hb⟩ : i.zero = some (.agg (List.replicate 11 (Value.bool false)).toArray) ∧ i.size = 11 ∧ i.bytes = 11 := by
    simp only [Prod.mk.injEq] at h3
    exact h3
  have := run_makeSlice W 76 68 i _ Try.underlying76 hi hz .i64 .i64 (n : Int) (n : Int) (by omega) (Int.le_refl _) (by rw [hs]; omega) (by rw [hb]; omega) (by omega)
  rw [this, hs, Int.toNat_natCast, show (Value.agg (List.replicate 11 (Value.bool false)).toArray).cells = (List.replicate 11 (Value.bool false)).toArray from rfl, hd_made]
theorem hd_train_parts {a b : Int} {l : List S66} (h : impl_TrainOk.l0 a b l = true) : (1 ≤ a ∧ a ≤ 60) ∧ (1 ≤ b ∧ b ≤ 11) ∧ l.length ≤ 200 ∧ ∀ j, j < l.length → impl_TrainOk.l1 a b l j = true := by
  unfold impl_TrainOk.l0 at h
  simp only [Bool.and_eq_true, decide_eq_true_eq, List.all_eq_true, List.mem_range] at h
  exact ⟨h.1.1.1, h.1.1.2, h.1.2, h.2⟩
theorem hd_book_parts {a b : Int} {l : List S66} {j : Nat} (h : impl_TrainOk.l1 a b l j = true) : (0 ≤ (rd_T66 l (j : Int)).f1 ∧ (rd_T66 l (j : Int)).f1 ≤ a - 1) ∧ (0 ≤ (rd_T66 l (j : Int)).f2 ∧ (rd_T66 l (j : Int)).f2 < (rd_T66 l (j : Int)).f3 ∧ (rd_T66 l (j : Int)).f3 ≤ b) := by
  unfold impl_TrainOk.l1 at h
  simp only [Bool.and_eq_true, decide_eq_true_eq] at h
  exact ⟨h.1.1.2, h.1.2⟩
set_option maxRecDepth 20000 in
set_option maxHeartbeats 4000000 in
theorem hd_held (a0_0 : Int) (a0_1 : Int) (A0_2 : Option Addr) (c0_2 : Nat) (l0_2 : List (S66)) (w : World) (hr0_2 : Kd.C k66 w A0_2 l0_2.length l0_2) (hc0_2 : l0_2.length ≤ c0_2) (hok : impl_TrainOk.l0 a0_0 a0_1 l0_2 = true) :
    Calls Try.prog 57 #[.agg #[.int .i64 a0_0, .int .i64 a0_1, .slice A0_2 l0_2.length c0_2]] w fun e w' => hd_heldPost a0_0.toNat l0_2 w w' e := by
  have hu29 := Try.underlying29
  have hu66 := Try.underlying66
  have hu68 := Try.underlying68
  have hu76 := Try.underlying76
  have HR := Aside0.mk hr0_2
  have HC := Aside0.mk hc0_2
  clear hr0_2 hc0_2
  have HB := Aside0.mk (Below.refl w.heap.size w)
  obtain ⟨⟨ha0, ha1⟩, hb01, h200, hall⟩ := hd_train_parts hok
  have PB := Aside0.mk hb01
  have HL := Aside0.mk h200
  have AL := Aside0.mk hall
  clear hb01 h200 hall hok
  obtain ⟨n, rfl⟩ : ∃ n : Nat, a0_0 = (n : Int) := ⟨a0_0.toNat, by omega⟩
  rw [Int.toNat_natCast]
  have NN := Aside0.mk (show 1 ≤ n ∧ n ≤ 60 by omega)
  clear ha0 ha1
  obtain ⟨Z, hZ⟩ : ∃ Z, Z = ((List.replicate (n * 11) false).map Value.bool).toArray := ⟨_, rfl⟩
  have hmk : ∀ W : World, (Instr.makeSlice 76 (.int .i64 (n : Int)) (.int .i64 (n : Int))).run Try.prog W = .ok (.slice (some ⟨W.heap.size, 0, none⟩) n n) (W.alloc (.cells Z 68 (0, 0))) := by rw [hZ]; exact hd_make76 n NN.out.2
  have HZ := Aside0.mk hZ
  clear hZ
  go_enter Try.func57, Try.ntmps57
  go_upto_region 2 with (fail)
  clear hmk
  have n0_ := Aside0.mk (blk_alloc (blk_new w (Obj.cells #[.int .i64 (n : Int), .int .i64 a0_1, .slice A0_2 l0_2.length c0_2] 29 (0, 0))) (Obj.cells Z 68 (0, 0)))
  have n1_ := Aside0.mk (blk_new (w.alloc (Obj.cells #[.int .i64 (n : Int), .int .i64 a0_1, .slice A0_2 l0_2.length c0_2] 29 (0, 0))) (Obj.cells Z 68 (0, 0)))
  have hsz : (w.alloc (Obj.cells #[.int .i64 (n : Int), .int .i64 a0_1, .slice A0_2 l0_2.length c0_2] 29 (0, 0))).heap.size = w.heap.size + 1 := Array.size_push _
  rw [hsz] at n1_
  have n2_ := Aside0.mk (below_alloc (below_alloc HB.out (Obj.cells #[.int .i64 (n : Int), .int .i64 a0_1, .slice A0_2 l0_2.length c0_2] 29 (0, 0))) (Obj.cells Z 68 (0, 0)))
  have NE : Aside0 (w.heap.size ≠ w.heap.size + 1) := ⟨by omega⟩
  have GB : Aside0 (w.heap.size ≤ w.heap.size + 1) := ⟨by omega⟩
  clear HB hsz
  generalize (w.alloc (Obj.cells #[.int .i64 (n : Int), .int .i64 a0_1, .slice A0_2 l0_2.length c0_2] 29 (0, 0))).alloc (Obj.cells Z 68 (0, 0)) = w3 at n0_ n1_ n2_ ⊢
  generalize hBB : w.heap.size + 1 = B at n1_ NE GB ⊢
  have BT := n0_
  have BA := n1_
  have HB := n2_
  clear n0_ n1_ n2_ hBB
  have hT2 : w3.cell? ⟨w.heap.size, 2, none⟩ = some (.slice A0_2 l0_2.length c0_2) := (blk_cell BT.out 2).trans rfl
  go_wp2
  go_loopg [5, 6, 13] l0_2.length (fun gg _ _ s13 wr => ∃ (kk : Nat) (xs : List Bool), kk ≤ l0_2.length ∧ l0_2.length - kk ≤ gg ∧ s13 = .int .i64 kk ∧ Aside0 (hd_HK n l0_2 xs kk) ∧ Aside0 (wr.heap[B]? = some (.cells (xs.map Value.bool).toArray 68 (0, 0))) ∧ Aside0 (Below w.heap.size w wr))
  case atStart =>
    refine ⟨0, List.replicate (n * 11) false, Nat.zero_le _, by omega, rfl, ⟨hd_hk_start n l0_2⟩, ⟨?_⟩, HB⟩
    rw [← HZ.out]
    exact BA.out
  case round =>
    clear BA BT HB hT2 HZ
    obtain ⟨kk, xs, hkk, hg, rfl, MK, BA, HB⟩ := hrel
    by_cases hlt : kk < l0_2.length
    · have hltz : (kk : Int) < (l0_2.length : Int) := by omega
      have hnn : (0 : Int) ≤ (kk : Int) := Int.natCast_nonneg kk
      obtain ⟨ad, e, hx0, hx1, hx2, hx3⟩ := at_T66 HR.out kk hnn hltz
      cases e
      rw [Int.toNat_natCast] at hx0 hx1 hx2 hx3
      replace hx0 := (HB.out.cell (World.block_lt_of_cell? w _ hx0)).trans hx0
      replace hx1 := (HB.out.cell (World.block_lt_of_cell? w _ hx1)).trans hx1
      replace hx2 := (HB.out.cell (World.block_lt_of_cell? w _ hx2)).trans hx2
      replace hx3 := (HB.out.cell (World.block_lt_of_cell? w _ hx3)).trans hx3
      obtain ⟨y, hy⟩ : ∃ y, rd_T66 l0_2 (kk : Int) = y := ⟨_, rfl⟩
      have hp := hd_book_parts (AL.out kk hlt)
      rw [hy] at hx0 hx1 hx2 hx3 hp
      have Y := Aside0.mk hy
      clear hy
      have hb := PB.out
      have hnb := NN.out
      obtain ⟨s0, hs0⟩ : ∃ m : Nat, y.f1 = (m : Int) := ⟨y.f1.toNat, by omega⟩
      obtain ⟨n2, hn2⟩ : ∃ m : Nat, y.f2 = (m : Int) := ⟨y.f2.toNat, by omega⟩
      obtain ⟨n3, hn3⟩ : ∃ m : Nat, y.f3 = (m : Int) := ⟨y.f3.toNat, by omega⟩
      have ls0 : s0 < n := by omega
      have ln3 : n3 ≤ 11 := by omega
      have l23 : n2 < n3 := by omega
      have S0 := Aside0.mk hs0
      have N2 := Aside0.mk hn2
      have N3 := Aside0.mk hn3
      have MI := Aside0.mk (hd_hi_start (l := l0_2) (i := kk) (k := n2) MK.out (by rw [Y.out]; exact hn2))
      clear hp MK hb hnb hs0 hn2 hn3
      go_upto_region 5 with (fail)
      have n0_ := Aside0.mk (blk_alloc BA.out (Obj.cells #[.int .i64 y.f0, .int .i64 y.f1, .int .i64 y.f2, .int .i64 y.f3] 66 (0, 0)))
      have n1_ := Aside0.mk (blk_new wr (Obj.cells #[.int .i64 y.f0, .int .i64 y.f1, .int .i64 y.f2, .int .i64 y.f3] 66 (0, 0)))
      have n2_ := Aside0.mk (below_alloc HB.out (Obj.cells #[.int .i64 y.f0, .int .i64 y.f1, .int .i64 y.f2, .int .i64 y.f3] 66 (0, 0)))
      have NG := Aside0.mk (Nat.ne_of_lt (blk_lt BA.out))
      clear BA HB hx0 hx1 hx2 hx3
      generalize wr.alloc (Obj.cells #[.int .i64 y.f0, .int .i64 y.f1, .int .i64 y.f2, .int .i64 y.f3] 66 (0, 0)) = w8 at n0_ n1_ n2_ ⊢
      generalize wr.heap.size = gb at n1_ NG ⊢
      have BA := n0_
      have BK := n1_
      have HB := n2_
      clear n0_ n1_ n2_
      have hG2 : w8.cell? ⟨gb, 2, none⟩ = some (.int .i64 y.f2) := (blk_cell BK.out 2).trans rfl
      go_upto_region 6 with (fail)
      rw [N2.out]
      clear hG2
      go_loopg [6] (n3 - n2) (fun gg s6 wi => ∃ (kn : Nat) (xi : List Bool), n2 ≤ kn ∧ kn ≤ n3 ∧ n3 - kn ≤ gg ∧ s6 = .int .i64 kn ∧ Aside0 (hd_HI n l0_2 xi kk kn) ∧ Aside0 (wi.heap[B]? = some (.cells (xi.map Value.bool).toArray 68 (0, 0))) ∧ Aside0 (wi.heap[gb]? = some (.cells #[.int .i64 y.f0, .int .i64 y.f1, .int .i64 y.f2, .int .i64 y.f3] 66 (0, 0))) ∧ Aside0 (Below w.heap.size w wi))
      case atStart => exact ⟨n2, xs, Nat.le_refl _, Nat.le_of_lt l23, Nat.le_refl _, rfl, MI, BA, BK, HB⟩
      case round =>
        clear MI BA BK HB
        obtain ⟨kn, xi, g1, g2, g3, rfl, MI, BA, BK, HB⟩ := hrel
        have hG1 := (blk_cell BK.out 1).trans (show _ = some (.int .i64 (s0 : Int)) by rw [← S0.out]; rfl)
        have hG3 := (blk_cell BK.out 3).trans (show _ = some (.int .i64 (n3 : Int)) by rw [← N3.out]; rfl)
        by_cases hkn : kn < n3
        · have hknz : (kn : Int) < (n3 : Int) := by omega
          have r0 : (0 : Int) ≤ s0 := by omega
          have r1 : (s0 : Int) < n := by omega
          have r2 : (0 : Int) ≤ kn := by omega
          have r3 : (kn : Int) < 11 := by omega
          have hfz := blk_frozen BA.out (s0 * 11 + kn)
          have hA : wr.cell? ⟨B, s0 * 11 + kn, none⟩ = some (.bool (xi.getD (s0 * 11 + kn) false)) := (blk_cell BA.out (s0 * 11 + kn)).trans (by
            have := MI.out.1
            simp [List.getD_eq_getElem?_getD, show s0 * 11 + kn < xi.length by omega])
          obtain ⟨v, hv⟩ : ∃ v, xi.getD (s0 * 11 + kn) false = v := ⟨_, rfl⟩
          rw [hv] at hA
          clear hv
          go_upto_region 7 with (fail)
          have n0_ := Aside0.mk (blk_put BA.out (s0 * 11 + kn) (.bool true) (cs' := ((xi.set (s0 * 11 + kn) true).map Value.bool).toArray) (by simp [List.map_set]))
          have n1_ := Aside0.mk (blk_far BK.out (p := ⟨B, s0 * 11 + kn, none⟩) (fun h => NG.out h.symm) (.bool true))
          have n3_ := Aside0.mk (below_set HB.out GB.out : Below w.heap.size w (World.setCell _ ⟨B, s0 * 11 + kn, none⟩ (.bool true)))
          have MI2 := Aside0.mk (hd_hi_step MI.out (by rw [Y.out]; exact S0.out) ls0 (show kn < 11 by omega) (by rw [Y.out, N2.out]; omega))
          clear hA hfz hG1 hG3
          generalize wr.setCell ⟨B, s0 * 11 + kn, none⟩ (.bool true) = w13 at n0_ n1_ n3_ ⊢
          generalize xi.set (s0 * 11 + kn) true = xj at n0_ MI2
          generalize s0 * 11 + kn = cc
          go_wp2_with (fail)
          go_roundg (n3 - (kn + 1))
          case measure => omega
          case rel => exact ⟨kn + 1, xj, by omega, by omega, by omega, congrArg (Value.int .i64) (by omega), MI2, n0_, n1_, n3_⟩
        · have hknz : ¬ (kn : Int) < (n3 : Int) := by omega
          have hkk : kn = n3 := by omega
          have hw := hd_w64k kk (by have := HL.out; omega)
          go_wp2
          go_roundg (l0_2.length - (kk + 1))
          case measure => (try clear hw); omega
          case rel => exact ⟨kk + 1, xi, by (try clear hw); omega, by (try clear hw); omega, by first | rw [hw] | exact congrArg (Value.int .i64) (by (try clear hw); omega), ⟨hd_hi_end MI.out hlt (by rw [Y.out, N3.out, hkk])⟩, BA, HB⟩
    · have hltz : ¬ (kk : Int) < (l0_2.length : Int) := by omega
      have hkl : kk = l0_2.length := by omega
      go_wp2
      go_ret
      unfold hd_heldPost
      exact ⟨B, xs, rfl, BA.out, GB.out, by rw [← hkl]; exact MK.out, HB.out⟩

end Go.Proofs.Ytklikbjlfaednaa.P

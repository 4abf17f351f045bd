/- Contracts of the functions of the program, each one with its plain Lean function; written by a program of the session out of the translation. -/
import Derived.Test.YtklikbjlfaednaaNb
import Derived.Test.YtklikbjlfaednaaPx0
namespace Go.Proofs.Ytklikbjlfaednaa.P
open Go.RowKit Go.Proofs.YtklikbjlfaednaaW.PrintWords Go.Proofs.YtklikbjlfaednaaW.PrintLast Go.Proofs.YtklikbjlfaednaaW.PrintMore
attribute [local go_sem] max2_int min2_int max_two min_two max_three min_three max_four min_four   -- for this text's walks alone
set_option linter.unusedVariables false
set_option linter.unusedSimpArgs false
/-! ### spec_l14Held: function 59 -/
theorem spec_l14Held.mono_l : ∀ k, (∀ y0 y1 y2 y3 y4 y5 y6 y7 y8 y9 y10 y11 y12, LeO (spec_l14Held.l0 k y0 y1 y2 y3 y4 y5 y6 y7 y8 y9 y10 y11 y12) (spec_l14Held.l0 (k + 1) y0 y1 y2 y3 y4 y5 y6 y7 y8 y9 y10 y11 y12)) ∧ (∀ y0 y1 y2 y3 y4 y5 y6 y7 y8 y9 y10 y11 y12 y13, LeO (spec_l14Held.j1 k y0 y1 y2 y3 y4 y5 y6 y7 y8 y9 y10 y11 y12 y13) (spec_l14Held.j1 (k + 1) y0 y1 y2 y3 y4 y5 y6 y7 y8 y9 y10 y11 y12 y13))
 | 0 => ⟨fun _ _ _ _ _ _ _ _ _ _ _ _ _ r h => by simp [spec_l14Held.l0] at h, fun _ _ _ _ _ _ _ _ _ _ _ _ _ _ r h => by simp [spec_l14Held.j1] at h⟩
 | k + 1 => by
  obtain ⟨ih0, ih1⟩ := spec_l14Held.mono_l k
  refine ⟨?_, ?_⟩
  · intro y0 y1 y2 y3 y4 y5 y6 y7 y8 y9 y10 y11 y12
    unfold spec_l14Held.l0
    repeat' first
    | (with_reducible exact ih0 _ _ _ _ _ _ _ _ _ _ _ _ _)
    | (with_reducible exact ih1 _ _ _ _ _ _ _ _ _ _ _ _ _ _)
    | (with_reducible exact LeO.refl _)
    | (with_reducible exact LeO.none _)
    | (with_reducible refine LeO.ite ?_ ?_)
    | (with_reducible refine LeO.bind ?_ (fun _ => ?_))
    | exact ih0 _ _ _ _ _ _ _ _ _ _ _ _ _
    | exact ih1 _ _ _ _ _ _ _ _ _ _ _ _ _ _
    | exact LeO.none _
    | refine LeO.ite ?_ ?_
    | refine LeO.bind ?_ (fun _ => ?_)
  · intro y0 y1 y2 y3 y4 y5 y6 y7 y8 y9 y10 y11 y12 y13
    unfold spec_l14Held.j1
    repeat' first
    | (with_reducible exact ih0 _ _ _ _ _ _ _ _ _ _ _ _ _)
    | (with_reducible exact ih1 _ _ _ _ _ _ _ _ _ _ _ _ _ _)
    | (with_reducible exact LeO.refl _)
    | (with_reducible exact LeO.none _)
    | (with_reducible refine LeO.ite ?_ ?_)
    | (with_reducible refine LeO.bind ?_ (fun _ => ?_))
    | exact ih0 _ _ _ _ _ _ _ _ _ _ _ _ _
    | exact ih1 _ _ _ _ _ _ _ _ _ _ _ _ _ _
    | exact LeO.none _
    | refine LeO.ite ?_ ?_
    | refine LeO.bind ?_ (fun _ => ?_)
theorem spec_l14Held.mono : ∀ a0 a1 a2 a3 a4 a5 a6 a7 k, LeO (spec_l14Held.f k a0 a1 a2 a3 a4 a5 a6 a7) (spec_l14Held.f (k + 1) a0 a1 a2 a3 a4 a5 a6 a7) := by
 intro a0 a1 a2 a3 a4 a5 a6 a7 k
 obtain ⟨ih0, ih1⟩ := spec_l14Held.mono_l k
 unfold spec_l14Held.f
 repeat' first
  | (with_reducible exact ih0 _ _ _ _ _ _ _ _ _ _ _ _ _)
  | (with_reducible exact ih1 _ _ _ _ _ _ _ _ _ _ _ _ _ _)
  | (with_reducible exact LeO.refl _)
  | (with_reducible exact LeO.none _)
  | (with_reducible refine LeO.ite ?_ ?_)
  | (with_reducible refine LeO.bind ?_ (fun _ => ?_))
  | exact ih0 _ _ _ _ _ _ _ _ _ _ _ _ _
  | exact ih1 _ _ _ _ _ _ _ _ _ _ _ _ _ _
  | exact LeO.none _
  | refine LeO.ite ?_ ?_
  | refine LeO.bind ?_ (fun _ => ?_)
def spec_l14Held.T6 : Bool × List (List Nat × List Nat) := (true, [([], []), ([0], [0]), ([1], [1]), ([2], [2]), ([3, 2], [2, 3]), ([2], [2]), ([4, 5, 2], [2, 4, 5]), ([6, 2], [2, 6]), ([7, 2], [2, 7]), ([2], [2]), ([9, 2], [2, 9]), ([8, 10, 2], [2, 8, 10]), ([2, 11], [2, 11])])
def spec_l14Held.B6 : List Nat := [0, 1, 3, 7, 15, 7, 63, 127, 255, 7, 519, 2047, 4095]
theorem spec_l14Held.tab6 : rtab .any (opsOf Try.f59 6) = spec_l14Held.T6 := by kernel_rfl
theorem spec_l14Held.bits6 : waitsOk spec_l14Held.T6.2 spec_l14Held.B6 = true := by kernel_rfl
def spec_l14Held.T10 : Bool × List (List Nat × List Nat) := (true, [([], []), ([0], [0]), ([], []), ([2], [2]), ([], []), ([3, 4], [3, 4]), ([5], [5]), ([6], [6]), ([1, 7], [1, 7]), ([0, 1, 2, 3, 4, 5, 6, 7, 8], []), ([9, 8, 8, 0, 1, 2, 3, 4, 5, 6, 7, 8], [8, 9])])
def spec_l14Held.B10 : List Nat := [0, 1, 0, 4, 0, 28, 60, 124, 255, 511, 1023]
theorem spec_l14Held.tab10 : rtab .any (opsOf Try.f59 10) = spec_l14Held.T10 := by kernel_rfl
theorem spec_l14Held.bits10 : waitsOk spec_l14Held.T10.2 spec_l14Held.B10 = true := by kernel_rfl
set_option maxHeartbeats 8000000 in
set_option maxRecDepth 100000 in
theorem spec_l14Held.calls (k : Nat) (a0_0 : Int) (a0_1 : Int) (A0_2 : Option Addr) (c0_2 : Nat) (l0_2 : List (S66)) (a1 : Int) (a2_0 : Int) (a2_1 : Int) (a2_2 : Int) (a2_3 : Int) (r1 : Int) (r2 : Int) (r3 : List (S66)) (w : World) (hr0_2 : Kd.C k66 w A0_2 l0_2.length l0_2) (hc0_2 : l0_2.length ≤ c0_2) (h : spec_l14Held.f k a0_0 a0_1 l0_2 a1 a2_0 a2_1 a2_2 a2_3 = some (r1, r2, r3)) :
 Calls Try.prog 59 #[.agg #[.int .i64 a0_0, .int .i64 a0_1, .slice A0_2 l0_2.length c0_2], .int .i64 a1, .agg #[.int .i64 a2_0, .int .i64 a2_1, .int .i64 a2_2, .int .i64 a2_3]] w fun e w' => ∃ v2_ : Value, e = .returned (.agg #[.int .i64 r1, .int .i64 r2, v2_]) ∧ Kd.R k66 66 w' w.heap.size (fun _ => True) v2_ r3 ∧ Below w.heap.size w w' := by
 have hu29 := Try.underlying29; have hu66 := Try.underlying66
 have HR0_2 := Aside0.mk hr0_2
 have HC0_2 := Aside0.mk hc0_2
 clear hr0_2 hc0_2
 have HB := Aside0.mk (Below.refl w.heap.size w)
 have H : (spec_l14Held.l0 k a1 (a2_0 == 0) 0 a0_0 a0_1 l0_2 a2_0 a2_1 a2_2 a2_3 a0_0 a0_1 ([] : List (S66))) = some (r1, r2, r3) := h
 clear h
 have H' := Aside0.mk H
 clear H
 go_enter Try.func59, Try.ntmps59
 go_wp2_with (first | ((with_reducible refine gate_dst (N := 3) rfl ?_); refine box_event ?hg (N := 3) ?hd (cs := #[.int .i64 a0_0, .int .i64 a0_1, .slice A0_2 l0_2.length c0_2]) (t := 29) ?hr ?_; (case hd => rfl); (case hg => rfl); (case hr => first | (go_simp; done) | (go_simp; rfl)); intro gb189 hg w4 hbox hb; have n0_ := Aside0.mk (below_step (nH HB.out) hb); have n1_ := Aside0.mk (hbox); have n2_ := Aside0.mk ((by rw [hg]; exact (below_size (nH HB.out)) : w.heap.size ≤ gb189)); have n3_ := Aside0.mk ((by rw [hg]; exact (below_size (nH HB.out)) : w.heap.size ≤ gb189)); clear HB; have HB := n0_; have BK189 := n1_; have GW189 := n2_; have GE189 := n3_; clear n0_ n1_ n2_ n3_; clear hb hbox hg) | ((with_reducible refine gate_dst (N := 5) rfl ?_); refine box_event ?hg (N := 5) ?hd (cs := #[.int .i64 a2_0, .int .i64 a2_1, .int .i64 a2_2, .int .i64 a2_3]) (t := 66) ?hr ?_; (case hd => rfl); (case hg => rfl); (case hr => first | (go_simp; done) | (go_simp; rfl)); intro gb190 hg w5 hbox hb; have n0_ := Aside0.mk (blk_below (g := gb189) (o := .cells #[.int .i64 a0_0, .int .i64 a0_1, .slice A0_2 l0_2.length c0_2] 29 (0, 0)) (nB BK189.out) hb); have n1_ := Aside0.mk (below_step (nH1 HB.out GE189.out) hb); have n2_ := Aside0.mk (hbox); have n3_ := Aside0.mk ((by rw [hg]; exact (below_size (nH1 HB.out GE189.out)) : w.heap.size ≤ gb190)); have n4_ := Aside0.mk ((by rw [hg]; exact (below_size (nH1 HB.out GE189.out)) : w.heap.size ≤ gb190)); have n5_ := Aside0.mk ((by rw [hg]; exact Nat.ne_of_lt (blk_lt (g := gb189) (o := .cells #[.int .i64 a0_0, .int .i64 a0_1, .slice A0_2 l0_2.length c0_2] 29 (0, 0)) (nB BK189.out)) : gb189 ≠ gb190)); have n6_ := Aside0.mk ((by rw [hg]; exact Nat.ne_of_gt (blk_lt (g := gb189) (o := .cells #[.int .i64 a0_0, .int .i64 a0_1, .slice A0_2 l0_2.length c0_2] 29 (0, 0)) (nB BK189.out)) : gb190 ≠ gb189)); clear BK189; clear HB; have BK189 := n0_; have HB := n1_; have BK190 := n2_; have GW190 := n3_; have GE190 := n4_; have NB189_190 := n5_; have NB190_189 := n6_; clear n0_ n1_ n2_ n3_ n4_ n5_ n6_; clear hb hbox hg) | ((with_reducible refine gate_dst (N := 6) rfl ?_); refine box_event ?hg (N := 6) ?hd (cs := #[.int .i64 0, .int .i64 0, .slice none 0 0]) (t := 29) ?hr ?_; (case hd => rfl); (case hg => rfl); (case hr => first | (go_simp; done) | (go_simp; rfl)); intro gb191 hg w6 hbox hb; have n0_ := Aside0.mk (blk_below (g := gb189) (o := .cells #[.int .i64 a0_0, .int .i64 a0_1, .slice A0_2 l0_2.length c0_2] 29 (0, 0)) (nB BK189.out) hb); have n1_ := Aside0.mk (blk_below (g := gb190) (o := .cells #[.int .i64 a2_0, .int .i64 a2_1, .int .i64 a2_2, .int .i64 a2_3] 66 (0, 0)) (nB BK190.out) hb); have n2_ := Aside0.mk (below_step (nH2 HB.out GE189.out GE190.out) hb); have n3_ := Aside0.mk (hbox); have n4_ := Aside0.mk ((by rw [hg]; exact (below_size (nH2 HB.out GE189.out GE190.out)) : w.heap.size ≤ gb191)); have n5_ := Aside0.mk ((by rw [hg]; exact (below_size (nH2 HB.out GE189.out GE190.out)) : w.heap.size ≤ gb191)); have n6_ := Aside0.mk ((by rw [hg]; exact Nat.ne_of_lt (blk_lt (g := gb189) (o := .cells #[.int .i64 a0_0, .int .i64 a0_1, .slice A0_2 l0_2.length c0_2] 29 (0, 0)) (nB BK189.out)) : gb189 ≠ gb191)); have n7_ := Aside0.mk ((by rw [hg]; exact Nat.ne_of_gt (blk_lt (g := gb189) (o := .cells #[.int .i64 a0_0, .int .i64 a0_1, .slice A0_2 l0_2.length c0_2] 29 (0, 0)) (nB BK189.out)) : gb191 ≠ gb189)); have n8_ := Aside0.mk ((by rw [hg]; exact Nat.ne_of_lt (blk_lt (g := gb190) (o := .cells #[.int .i64 a2_0, .int .i64 a2_1, .int .i64 a2_2, .int .i64 a2_3] 66 (0, 0)) (nB BK190.out)) : gb190 ≠ gb191)); have n9_ := Aside0.mk ((by rw [hg]; exact Nat.ne_of_gt (blk_lt (g := gb190) (o := .cells #[.int .i64 a2_0, .int .i64 a2_1, .int .i64 a2_2, .int .i64 a2_3] 66 (0, 0)) (nB BK190.out)) : gb191 ≠ gb190)); clear BK189; clear BK190; clear HB; have BK189 := n0_; have BK190 := n1_; have HB := n2_; have BK191 := n3_; have GW191 := n4_; have GE191 := n5_; have NB189_191 := n6_; have NB191_189 := n7_; have NB190_191 := n8_; have NB191_190 := n9_; clear n0_ n1_ n2_ n3_ n4_ n5_ n6_ n7_ n8_ n9_; clear hb hbox hg; have hnb7 := NB189_190.out; have hnc7 := NB190_189.out; have hnb8 := NB189_191.out; have hnc8 := NB191_189.out; have hcz9_0 : w6.cell? ⟨gb189, 0, none⟩ = some (.int .i64 a0_0) := (blk_cell BK189.out 0).trans rfl; have hcz9_1 : w6.cell? ⟨gb189, 1, none⟩ = some (.int .i64 a0_1) := (blk_cell BK189.out 1).trans rfl; have hcz9_2 : w6.cell? ⟨gb189, 2, none⟩ = some (.slice A0_2 l0_2.length c0_2) := (blk_cell BK189.out 2).trans rfl; have hfz9_0 := blk_frozen BK189.out 0; have hfz9_1 := blk_frozen BK189.out 1; have hfz9_2 := blk_frozen BK189.out 2) | ((with_reducible refine gate_dst (N := 7) rfl ?_); refine box_event ?hg (N := 7) ?hd (cs := #[.int .i64 0, .int .i64 0, .slice none 0 0]) (t := 29) ?hr ?_; (case hd => rfl); (case hg => rfl); (case hr => first | (go_simp; done) | (go_simp; rfl)); intro gb192 hg w10 hbox hb; have n0_ := Aside0.mk (blk_below (g := gb189) (o := .cells #[.int .i64 a0_0, .int .i64 a0_1, .slice A0_2 l0_2.length c0_2] 29 (0, 0)) (nB BK189.out) hb); have n1_ := Aside0.mk (blk_below (g := gb190) (o := .cells #[.int .i64 a2_0, .int .i64 a2_1, .int .i64 a2_2, .int .i64 a2_3] 66 (0, 0)) (nB BK190.out) hb); have n2_ := Aside0.mk (blk_below (g := gb191) (o := .cells #[.int .i64 0, .int .i64 0, .slice none 0 0] 29 (0, 0)) (nB BK191.out) hb); have n3_ := Aside0.mk (below_step (nH3 HB.out GE189.out GE190.out GE191.out) hb); have n4_ := Aside0.mk (hbox); have n5_ := Aside0.mk ((by rw [hg]; exact (below_size (nH3 HB.out GE189.out GE190.out GE191.out)) : w.heap.size ≤ gb192)); have n6_ := Aside0.mk ((by rw [hg]; exact (below_size (nH3 HB.out GE189.out GE190.out GE191.out)) : w.heap.size ≤ gb192)); have n7_ := Aside0.mk ((by rw [hg]; exact Nat.ne_of_lt (blk_lt (g := gb189) (o := .cells #[.int .i64 a0_0, .int .i64 a0_1, .slice A0_2 l0_2.length c0_2] 29 (0, 0)) (nB BK189.out)) : gb189 ≠ gb192)); have n8_ := Aside0.mk ((by rw [hg]; exact Nat.ne_of_gt (blk_lt (g := gb189) (o := .cells #[.int .i64 a0_0, .int .i64 a0_1, .slice A0_2 l0_2.length c0_2] 29 (0, 0)) (nB BK189.out)) : gb192 ≠ gb189)); have n9_ := Aside0.mk ((by rw [hg]; exact Nat.ne_of_lt (blk_lt (g := gb190) (o := .cells #[.int .i64 a2_0, .int .i64 a2_1, .int .i64 a2_2, .int .i64 a2_3] 66 (0, 0)) (nB BK190.out)) : gb190 ≠ gb192)); have n10_ := Aside0.mk ((by rw [hg]; exact Nat.ne_of_gt (blk_lt (g := gb190) (o := .cells #[.int .i64 a2_0, .int .i64 a2_1, .int .i64 a2_2, .int .i64 a2_3] 66 (0, 0)) (nB BK190.out)) : gb192 ≠ gb190)); have n11_ := Aside0.mk ((by rw [hg]; exact Nat.ne_of_lt (blk_lt (g := gb191) (o := .cells #[.int .i64 0, .int .i64 0, .slice none 0 0] 29 (0, 0)) (nB BK191.out)) : gb191 ≠ gb192)); have n12_ := Aside0.mk ((by rw [hg]; exact Nat.ne_of_gt (blk_lt (g := gb191) (o := .cells #[.int .i64 0, .int .i64 0, .slice none 0 0] 29 (0, 0)) (nB BK191.out)) : gb192 ≠ gb191)); clear BK189; clear BK190; clear BK191; clear HB; have BK189 := n0_; have BK190 := n1_; have BK191 := n2_; have HB := n3_; have BK192 := n4_; have GW192 := n5_; have GE192 := n6_; have NB189_192 := n7_; have NB192_189 := n8_; have NB190_192 := n9_; have NB192_190 := n10_; have NB191_192 := n11_; have NB192_191 := n12_; clear n0_ n1_ n2_ n3_ n4_ n5_ n6_ n7_ n8_ n9_ n10_ n11_ n12_; clear hb hbox hg; have hnb11 := NB192_189.out; have hnc11 := NB189_192.out; have hnb12 := NB192_190.out; have hnc12 := NB190_192.out; have hnb13 := NB192_191.out; have hnc13 := NB191_192.out; have hcz14_0 : w10.cell? ⟨gb192, 0, none⟩ = some (.int .i64 0) := (blk_cell BK192.out 0).trans rfl; have hcz14_1 : w10.cell? ⟨gb192, 1, none⟩ = some (.int .i64 0) := (blk_cell BK192.out 1).trans rfl; have hcz14_2 : w10.cell? ⟨gb192, 2, none⟩ = some (.slice none 0 0) := (blk_cell BK192.out 2).trans rfl; have hfz14_0 := blk_frozen BK192.out 0; have hfz14_1 := blk_frozen BK192.out 1; have hfz14_2 := blk_frozen BK192.out 2; have hnb15 := NB190_191.out; have hnc15 := NB191_190.out; have hcz16_0 : w10.cell? ⟨gb190, 0, none⟩ = some (.int .i64 a2_0) := (blk_cell BK190.out 0).trans rfl; have hcz16_1 : w10.cell? ⟨gb190, 1, none⟩ = some (.int .i64 a2_1) := (blk_cell BK190.out 1).trans rfl; have hcz16_2 : w10.cell? ⟨gb190, 2, none⟩ = some (.int .i64 a2_2) := (blk_cell BK190.out 2).trans rfl; have hcz16_3 : w10.cell? ⟨gb190, 3, none⟩ = some (.int .i64 a2_3) := (blk_cell BK190.out 3).trans rfl; have hfz16_0 := blk_frozen BK190.out 0; have hfz16_1 := blk_frozen BK190.out 1; have hfz16_2 := blk_frozen BK190.out 2; have hfz16_3 := blk_frozen BK190.out 3))
 go_loopg [8, 9] k (fun kq v8 v9 w' => ∃ (x8_1 : Bool) (x9_1 : Int) (x193002_1 : List (S66)) (u193002 : Value), v8 = .bool x8_1 ∧ v9 = .int .i64 x9_1 ∧ Aside0 (spec_l14Held.l0 kq a1 x8_1 x9_1 a0_0 a0_1 l0_2 a2_0 a2_1 a2_2 a2_3 a0_0 a0_1 x193002_1 = some (r1, r2, r3)) ∧ Aside0 (kq ≤ k) ∧ Aside0 (Kd.R k66 66 w' w.heap.size (fun k_ => k_ ≠ gb190) u193002 x193002_1) ∧ Aside0 (w'.heap[gb189]? = some (.cells #[.int .i64 a0_0, .int .i64 a0_1, (.slice A0_2 l0_2.length c0_2)] 29 (0, 0))) ∧ Aside0 (w'.heap[gb190]? = some (.cells #[.int .i64 a2_0, .int .i64 a2_1, .int .i64 a2_2, .int .i64 a2_3] 66 (0, 0))) ∧ Aside0 (w'.heap[gb191]? = some (.cells #[.int .i64 0, .int .i64 0, (.slice none 0 0)] 29 (0, 0))) ∧ Aside0 (w'.heap[gb192]? = some (.cells #[.int .i64 a0_0, .int .i64 a0_1, u193002] 29 (0, 0))) ∧ Aside0 (Below w.heap.size w w'))
 case atStart => exact ⟨((a2_0 == 0)), (0), (([] : List (S66))), (.slice none 0 0), nS, nS, H', ⟨Nat.le_refl _⟩, ⟨by first | exact Kd.R_nil _ _ _ _ _ | exact Kd.N_nil _ _ _ _ _ | exact Kd.V_nil _ _ _ _ _ | exact Kd.Q_nil _ _ _ _ _ | exact Kd.S_nil _ _ _ _ _⟩, ⟨by (with_reducible repeat (first | refine blk_drewN ?_ _ | refine blk_drew ?_ | refine blk_alloc ?_ _)); refine blk_far ?_ NB189_192.out _; (with_reducible repeat (first | refine blk_drewN ?_ _ | refine blk_drew ?_ | refine blk_alloc ?_ _)); refine blk_far ?_ NB189_192.out _; (with_reducible repeat (first | refine blk_drewN ?_ _ | refine blk_drew ?_ | refine blk_alloc ?_ _)); refine blk_far ?_ NB189_192.out _; (with_reducible repeat (first | refine blk_drewN ?_ _ | refine blk_drew ?_ | refine blk_alloc ?_ _)); exact BK189.out⟩, ⟨by (with_reducible repeat (first | refine blk_drewN ?_ _ | refine blk_drew ?_ | refine blk_alloc ?_ _)); refine blk_far ?_ NB190_192.out _; (with_reducible repeat (first | refine blk_drewN ?_ _ | refine blk_drew ?_ | refine blk_alloc ?_ _)); refine blk_far ?_ NB190_192.out _; (with_reducible repeat (first | refine blk_drewN ?_ _ | refine blk_drew ?_ | refine blk_alloc ?_ _)); refine blk_far ?_ NB190_192.out _; (with_reducible repeat (first | refine blk_drewN ?_ _ | refine blk_drew ?_ | refine blk_alloc ?_ _)); exact BK190.out⟩, ⟨by (with_reducible repeat (first | refine blk_drewN ?_ _ | refine blk_drew ?_ | refine blk_alloc ?_ _)); refine blk_far ?_ NB191_192.out _; (with_reducible repeat (first | refine blk_drewN ?_ _ | refine blk_drew ?_ | refine blk_alloc ?_ _)); refine blk_far ?_ NB191_192.out _; (with_reducible repeat (first | refine blk_drewN ?_ _ | refine blk_drew ?_ | refine blk_alloc ?_ _)); refine blk_far ?_ NB191_192.out _; (with_reducible repeat (first | refine blk_drewN ?_ _ | refine blk_drew ?_ | refine blk_alloc ?_ _)); exact BK191.out⟩, ⟨by (with_reducible repeat (first | refine blk_drewN ?_ _ | refine blk_drew ?_ | refine blk_alloc ?_ _)); refine blk_put (cs := #[.int .i64 a0_0, .int .i64 a0_1, .slice none 0 0]) ?_ 2 _ rfl; (with_reducible repeat (first | refine blk_drewN ?_ _ | refine blk_drew ?_ | refine blk_alloc ?_ _)); refine blk_put (cs := #[.int .i64 a0_0, .int .i64 0, .slice none 0 0]) ?_ 1 _ rfl; (with_reducible repeat (first | refine blk_drewN ?_ _ | refine blk_drew ?_ | refine blk_alloc ?_ _)); refine blk_put (cs := #[.int .i64 0, .int .i64 0, .slice none 0 0]) ?_ 0 _ rfl; (with_reducible repeat (first | refine blk_drewN ?_ _ | refine blk_drew ?_ | refine blk_alloc ?_ _)); exact BK192.out⟩, ⟨by repeat (first | (with_reducible first | exact HB.out | apply below_alloc | apply pw_below_drewN | apply below_drew1 | refine below_set ?_ GE189.out | refine below_set ?_ GE190.out | refine below_set ?_ GE191.out | refine below_set ?_ GE192.out) | exact HB.out)⟩⟩
 case round =>
  clear H'
  try clear c1; try clear p2; try clear c5; try clear c7; try clear c8; try clear c11; try clear c12; try clear c13; try clear c15; try clear hcz14_0; try clear hcz14_1; try clear hcz14_2; try clear hcz16_0; try clear hcz16_1; try clear hcz16_2; try clear hcz16_3; try clear hcz9_0; try clear hcz9_1; try clear hcz9_2; try clear hfz14_0; try clear hfz14_1; try clear hfz14_2; try clear hfz16_0; try clear hfz16_1; try clear hfz16_2; try clear hfz16_3; try clear hfz9_0; try clear hfz9_1; try clear hfz9_2
  obtain ⟨x8_1, x9_1, x193002_1, u193002, rfl, rfl, HA, HK1, HO_193002, BK189, BK190, BK191, BK192, HB⟩ := hrel
  cases gk with
  | zero => exact absurd HA.out (by simp [spec_l14Held.l0])
  | succ k1 =>
   have H := HA.out; clear HA
   simp only [spec_l14Held.l0] at H
   by_cases c17 : x9_1 < (l0_2.length : Int)
   · rw [if_pos c17] at H
     have c17b0 : decide (x9_1 < (l0_2.length : Int)) = true := decide_eq_true c17
     clear c17
     have HC18 := Aside0.mk H
     clear H; have hnb19 := NB189_190.out; have hnc19 := NB190_189.out; have hnb20 := NB189_191.out; have hnc20 := NB191_189.out; have hnb21 := NB189_192.out; have hnc21 := NB192_189.out
     have hcz22_0 : wr.cell? ⟨gb189, 0, none⟩ = some (.int .i64 a0_0) := (blk_cell BK189.out 0).trans rfl
     have hcz22_1 : wr.cell? ⟨gb189, 1, none⟩ = some (.int .i64 a0_1) := (blk_cell BK189.out 1).trans rfl
     have hcz22_2 : wr.cell? ⟨gb189, 2, none⟩ = some (.slice A0_2 l0_2.length c0_2) := (blk_cell BK189.out 2).trans rfl
     have hfz22_0 := blk_frozen BK189.out 0
     have hfz22_1 := blk_frozen BK189.out 1
     have hfz22_2 := blk_frozen BK189.out 2
     go_upto_region 6 with (fail)
     go_cut [37] (fun v37 wc => ∃ (kq : Nat) (x37_17 : Bool), v37 = .bool x37_17 ∧ Aside0 (spec_l14Held.j1 kq a1 x8_1 x9_1 x37_17 a0_0 a0_1 l0_2 a2_0 a2_1 a2_2 a2_3 a0_0 a0_1 x193002_1 = some (r1, r2, r3)) ∧ Aside0 (kq ≤ k1) ∧ Aside0 (Kd.R k66 66 wc w.heap.size (fun k_ => k_ ≠ gb190) u193002 x193002_1) ∧ Aside0 (wc.heap[gb189]? = some (.cells #[.int .i64 a0_0, .int .i64 a0_1, (.slice A0_2 l0_2.length c0_2)] 29 (0, 0))) ∧ Aside0 (wc.heap[gb190]? = some (.cells #[.int .i64 a2_0, .int .i64 a2_1, .int .i64 a2_2, .int .i64 a2_3] 66 (0, 0))) ∧ Aside0 (wc.heap[gb191]? = some (.cells #[.int .i64 0, .int .i64 0, (.slice none 0 0)] 29 (0, 0))) ∧ Aside0 (wc.heap[gb192]? = some (.cells #[.int .i64 a0_0, .int .i64 a0_1, u193002] 29 (0, 0))) ∧ Aside0 (Below w.heap.size w wc))
     case first =>
      have H := HC18.out; clear HC18
      by_cases c23 : x8_1 = true
      · subst c23
        have H1 : (spec_l14Held.j1 k1 a1 true x9_1 false a0_0 a0_1 l0_2 a2_0 a2_1 a2_2 a2_3 a0_0 a0_1 x193002_1) = some (r1, r2, r3) := by rw [if_pos rfl] at H; exact H
        clear H; have H := H1; clear H1
        have H' := Aside0.mk H
        clear H
        try go_wp2
        have n0_ := Aside0.mk (Kd.R_drew HO_193002.out)
        have n1_ := Aside0.mk (blk_drew BK189.out)
        have n2_ := Aside0.mk (blk_drew BK190.out)
        have n3_ := Aside0.mk (blk_drew BK191.out)
        have n4_ := Aside0.mk (blk_drew BK192.out)
        have n5_ := Aside0.mk (below_drew1 HB.out)
        clear HO_193002; clear BK189; clear BK190; clear BK191; clear BK192; clear HB; have HO_193002 := n0_; have BK189 := n1_; have BK190 := n2_; have BK191 := n3_; have BK192 := n4_; have HB := n5_; clear n0_ n1_ n2_ n3_ n4_ n5_
        refine start_ (n := 13) (S := fun w' => True) (ds := []) #[F,F,F,F,F,F,F,F,F,F,F,F,F] (by kernel_rfl) rfl rfl trivial (fun hHeld => ?_); refine with_tabW spec_l14Held.tab6 spec_l14Held.bits6 (fun HT_ HW_ => ?_)
        generalize wr.drew = w24 at HO_193002 BK189 BK190 BK191 BK192 HB hHeld ⊢
        refine pU 0 (some 25) #[T,F,F,F,F,F,F,F,F,F,F,F,F] rfl rfl HT_.out ?_
        refine pU 1 (some 26) #[T,T,F,F,F,F,F,F,F,F,F,F,F] rfl rfl HT_.out ?_
        refine pU 2 (some 27) #[T,T,T,F,F,F,F,F,F,F,F,F,F] rfl rfl HT_.out ?_
        refine pV 3 (some 28) #[T,T,T,T,F,F,F,F,F,F,F,F,F] rfl rfl HT_.out ?_
        refine pV 4 (some 29) #[T,T,T,T,T,F,F,F,F,F,F,F,F] rfl rfl HT_.out ?_
        refine pV 5 (some 30) #[T,T,T,T,T,T,F,F,F,F,F,F,F] rfl rfl HT_.out ?_
        refine pV 6 (some 31) #[T,T,T,T,T,T,T,F,F,F,F,F,F] rfl rfl HT_.out ?_
        refine pV 7 (some 32) #[T,T,T,T,T,T,T,T,F,F,F,F,F] rfl rfl HT_.out ?_
        refine pV 8 (some 33) #[T,T,T,T,T,T,T,T,T,F,F,F,F] rfl rfl HT_.out ?_
        refine pV 9 (some 34) #[T,T,T,T,T,T,T,T,T,T,F,F,F] rfl rfl HT_.out ?_
        refine pV 10 (some 35) #[T,T,T,T,T,T,T,T,T,T,T,F,F] rfl rfl HT_.out ?_
        refine pV 11 (some 36) #[T,T,T,T,T,T,T,T,T,T,T,T,F] rfl rfl HT_.out ?_
        refine pU 12 (some 37) #[T,T,T,T,T,T,T,T,T,T,T,T,T] rfl rfl HT_.out ?_
        refine done_ (done_of HT_.out (by kernel_rfl)) ?_
        try go_wp2
        go_meet
        case rel => exact ⟨_, (false), nS, H', ⟨by have := HK1.out; first | omega | exact Nat.le_refl _⟩, ⟨by (with_reducible repeat (first | apply Kd.R_alloc | apply Kd.R_drewN | apply Kd.R_drew)); exact HO_193002.out⟩, ⟨by (with_reducible repeat (first | refine blk_drewN ?_ _ | refine blk_drew ?_ | refine blk_alloc ?_ _)); exact BK189.out⟩, ⟨by (with_reducible repeat (first | refine blk_drewN ?_ _ | refine blk_drew ?_ | refine blk_alloc ?_ _)); exact BK190.out⟩, ⟨by (with_reducible repeat (first | refine blk_drewN ?_ _ | refine blk_drew ?_ | refine blk_alloc ?_ _)); exact BK191.out⟩, ⟨by (with_reducible repeat (first | refine blk_drewN ?_ _ | refine blk_drew ?_ | refine blk_alloc ?_ _)); exact BK192.out⟩, ⟨by repeat (first | (with_reducible first | exact HB.out | apply below_alloc | apply pw_below_drewN | apply below_drew1 | refine below_set ?_ GE189.out | refine below_set ?_ GE190.out | refine below_set ?_ GE191.out | refine below_set ?_ GE192.out) | exact HB.out)⟩⟩
      · replace c23 := Bool.eq_false_iff.mpr c23
        subst c23
        have H1 : (if 0 ≤ x9_1 then (spec_l14Held.j1 k1 a1 false x9_1 (decide (((rd_T66 l0_2 x9_1).f0) > a2_0)) a0_0 a0_1 l0_2 a2_0 a2_1 a2_2 a2_3 a0_0 a0_1 x193002_1) else (none)) = some (r1, r2, r3) := by rw [if_neg (show ¬ (false = true) by decide)] at H; exact H
        clear H; have H := H1; clear H1
        by_cases c25 : 0 ≤ x9_1
        rotate_left
        · (rw [if_neg c25] at H; exact absurd H (by simp))
        rw [if_pos c25] at H
        have c25b0 : decide (0 ≤ x9_1) = true := decide_eq_true c25
        clear c25
        (first | rw [c25b0] | (simp only [i64_w, i32_w]; rw [c25b0]) | skip)
        have H' := Aside0.mk H
        clear H
        try go_wp2
        have n0_ := Aside0.mk (Kd.R_drew HO_193002.out)
        have n1_ := Aside0.mk (blk_drew BK189.out)
        have n2_ := Aside0.mk (blk_drew BK190.out)
        have n3_ := Aside0.mk (blk_drew BK191.out)
        have n4_ := Aside0.mk (blk_drew BK192.out)
        have n5_ := Aside0.mk (below_drew1 HB.out)
        clear HO_193002; clear BK189; clear BK190; clear BK191; clear BK192; clear HB; have HO_193002 := n0_; have BK189 := n1_; have BK190 := n2_; have BK191 := n3_; have BK192 := n4_; have HB := n5_; clear n0_ n1_ n2_ n3_ n4_ n5_
        have p196 : 0 ≤ (x9_1 : Int) := of_decide_eq_true nQ
        have q196 : x9_1 < (l0_2.length : Int) := of_decide_eq_true nQ
        obtain ⟨ad196, e196, hx196_0, hx196_1, hx196_2, hx196_3⟩ := at_T66 HR0_2.out x9_1 p196 q196
        have hw196_3 := hx196_3; have hw196_2 := hx196_2; have hw196_1 := hx196_1; have hw196_0 := hx196_0; cases e196
        replace hx196_0 := (HB.out.cell (World.block_lt_of_cell? w _ hx196_0)).trans hx196_0
        replace hx196_1 := (HB.out.cell (World.block_lt_of_cell? w _ hx196_1)).trans hx196_1
        replace hx196_2 := (HB.out.cell (World.block_lt_of_cell? w _ hx196_2)).trans hx196_2
        replace hx196_3 := (HB.out.cell (World.block_lt_of_cell? w _ hx196_3)).trans hx196_3
        replace p196 := eq_true p196; replace q196 := eq_true q196
        refine start_ (n := 13) (S := fun w' => w'.cell? ⟨gb189, 0, none⟩ = some (.int .i64 a0_0) ∧ w'.cell? ⟨gb189, 1, none⟩ = some (.int .i64 a0_1) ∧ w'.cell? ⟨gb189, 2, none⟩ = some (.slice (some ad196) l0_2.length c0_2) ∧ w'.cell? ⟨gb190, 0, none⟩ = some (.int .i64 a2_0) ∧ w'.cell? ⟨gb190, 1, none⟩ = some (.int .i64 a2_1) ∧ w'.cell? ⟨gb190, 2, none⟩ = some (.int .i64 a2_2) ∧ w'.cell? ⟨gb190, 3, none⟩ = some (.int .i64 a2_3) ∧ w'.cell? (ad196.add ((x9_1).toNat * 4)) = some (.int .i64 ((rd_T66 l0_2 x9_1).f0)) ∧ w'.cell? ⟨(ad196.add ((x9_1).toNat * 4)).block, (ad196.add ((x9_1).toNat * 4)).off + 1, none⟩ = some (.int .i64 ((rd_T66 l0_2 x9_1).f1)) ∧ w'.cell? ⟨(ad196.add ((x9_1).toNat * 4)).block, (ad196.add ((x9_1).toNat * 4)).off + 2, none⟩ = some (.int .i64 ((rd_T66 l0_2 x9_1).f2)) ∧ w'.cell? ⟨(ad196.add ((x9_1).toNat * 4)).block, (ad196.add ((x9_1).toNat * 4)).off + 3, none⟩ = some (.int .i64 ((rd_T66 l0_2 x9_1).f3))) (ds := []) #[F,F,F,F,F,F,F,F,F,F,F,F,F] (by kernel_rfl) rfl rfl ⟨(blk_cell BK189.out 0).trans rfl, (blk_cell BK189.out 1).trans rfl, (blk_cell BK189.out 2).trans rfl, (blk_cell BK190.out 0).trans rfl, (blk_cell BK190.out 1).trans rfl, (blk_cell BK190.out 2).trans rfl, (blk_cell BK190.out 3).trans rfl, (nC HB.out hw196_0 :), (nC HB.out hw196_1 :), (nC HB.out hw196_2 :), (nC HB.out hw196_3 :)⟩ (fun hHeld => ?_); refine with_tabW spec_l14Held.tab6 spec_l14Held.bits6 (fun HT_ HW_ => ?_)
        generalize wr.drew = w26 at HO_193002 BK189 BK190 BK191 BK192 HB hx196_0 hx196_1 hx196_2 hx196_3 hHeld ⊢
        refine pU 0 (some 25) #[T,F,F,F,F,F,F,F,F,F,F,F,F] rfl rfl HT_.out ?_
        refine pU 1 (some 26) #[T,T,F,F,F,F,F,F,F,F,F,F,F] rfl rfl HT_.out ?_
        refine pU 2 (some 27) #[T,T,T,F,F,F,F,F,F,F,F,F,F] rfl rfl HT_.out ?_
        refine pU 3 (some 28) #[T,T,T,T,F,F,F,F,F,F,F,F,F] rfl rfl HT_.out ?_
        refine pU 5 (some 30) #[T,T,T,T,F,T,F,F,F,F,F,F,F] rfl rfl HT_.out ?_
        refine pU 9 (some 34) #[T,T,T,T,F,T,F,F,F,T,F,F,F] rfl rfl HT_.out ?_
        refine tU11 4 (some 29) #[T,T,T,T,T,T,F,F,F,T,F,F,F] rfl rfl HT_.out HW_.out hHeld ?_
        refine pU 6 (some 31) #[T,T,T,T,T,T,T,F,F,T,F,F,F] rfl rfl HT_.out ?_
        refine pU 7 (some 32) #[T,T,T,T,T,T,T,T,F,T,F,F,F] rfl rfl HT_.out ?_
        refine tU11 8 (some 33) #[T,T,T,T,T,T,T,T,T,T,F,F,F] rfl rfl HT_.out HW_.out hHeld ?_
        refine tU11 10 (some 35) #[T,T,T,T,T,T,T,T,T,T,T,F,F] rfl rfl HT_.out HW_.out hHeld ?_
        refine pU 11 (some 36) #[T,T,T,T,T,T,T,T,T,T,T,T,F] rfl rfl HT_.out ?_
        refine pU 12 (some 37) #[T,T,T,T,T,T,T,T,T,T,T,T,T] rfl rfl HT_.out ?_
        refine done_ (done_of HT_.out (by kernel_rfl)) ?_
        try go_wp2
        go_meet
        case rel => exact ⟨_, (decide (((rd_T66 l0_2 x9_1).f0) > a2_0)), nS, H', ⟨by have := HK1.out; first | omega | exact Nat.le_refl _⟩, ⟨by (with_reducible repeat (first | apply Kd.R_alloc | apply Kd.R_drewN | apply Kd.R_drew)); exact HO_193002.out⟩, ⟨by (with_reducible repeat (first | refine blk_drewN ?_ _ | refine blk_drew ?_ | refine blk_alloc ?_ _)); exact BK189.out⟩, ⟨by (with_reducible repeat (first | refine blk_drewN ?_ _ | refine blk_drew ?_ | refine blk_alloc ?_ _)); exact BK190.out⟩, ⟨by (with_reducible repeat (first | refine blk_drewN ?_ _ | refine blk_drew ?_ | refine blk_alloc ?_ _)); exact BK191.out⟩, ⟨by (with_reducible repeat (first | refine blk_drewN ?_ _ | refine blk_drew ?_ | refine blk_alloc ?_ _)); exact BK192.out⟩, ⟨by repeat (first | (with_reducible first | exact HB.out | apply below_alloc | apply pw_below_drewN | apply below_drew1 | refine below_set ?_ GE189.out | refine below_set ?_ GE190.out | refine below_set ?_ GE191.out | refine below_set ?_ GE192.out) | exact HB.out)⟩⟩
     case rest =>
      clear HC18; try clear c1; try clear p1; try clear q1; try clear hx1; try clear c2; try clear p2; try clear c5; try clear c7; try clear c8; try clear c11; try clear c12; try clear c13; try clear c15; try clear c17; try clear c17b0; try clear c19; try clear p19; try clear q19; try clear hx19; try clear c20; try clear c21; try clear c23; try clear c25; try clear c25b0; try clear hcz14_0; try clear hcz14_1; try clear hcz14_2; try clear hcz16_0; try clear hcz16_1; try clear hcz16_2; try clear hcz16_3; try clear hcz22_0; try clear hcz22_1; try clear hcz22_2; try clear hcz9_0; try clear hcz9_1; try clear hcz9_2
      try clear hfz14_0; try clear hfz14_1; try clear hfz14_2; try clear hfz16_0; try clear hfz16_1; try clear hfz16_2; try clear hfz16_3; try clear hfz22_0; try clear hfz22_1; try clear hfz22_2; try clear hfz9_0; try clear hfz9_1; try clear hfz9_2; try clear hx196_0; try clear hx196_1; try clear hx196_2; try clear hx196_3; try clear p196; try clear p2; try clear q196
      obtain ⟨kq, x37_17, rfl, HA, HJ17, HO_193002, BK189, BK190, BK191, BK192, HB⟩ := hcut
      cases kq with
      | zero => exact absurd HA.out (by simp [spec_l14Held.j1])
      | succ kj17 =>
       have H := HA.out; clear HA
       simp only [spec_l14Held.j1] at H
       by_cases c27 : x37_17 = true
       · subst c27
         have H1 : (if x193002_1.length < 4398046511104 then ((some (x193002_1 ++ [(⟨a2_0, a2_1, a2_2, a2_3⟩ : S66)] : List (S66))).bind fun y197 => (if 0 ≤ x9_1 then (if x9_1 < (l0_2.length : Int) then (if ((rd_T66 l0_2 x9_1).f0) = a1 then (spec_l14Held.l0 kj17 a1 true (wrap64 (x9_1 + 1)) a0_0 a0_1 l0_2 a2_0 a2_1 a2_2 a2_3 a0_0 a0_1 y197) else (if y197.length < 4398046511104 then (spec_l14Held.l0 kj17 a1 true (wrap64 (x9_1 + 1)) a0_0 a0_1 l0_2 a2_0 a2_1 a2_2 a2_3 a0_0 a0_1 (y197 ++ [(⟨(rd_T66 l0_2 x9_1).f0, (rd_T66 l0_2 x9_1).f1, (rd_T66 l0_2 x9_1).f2, (rd_T66 l0_2 x9_1).f3⟩ : S66)])) else (none))) else (none)) else (none))) else (none)) = some (r1, r2, r3) := by rw [if_pos rfl] at H; exact H
         clear H; have H := H1; clear H1
         by_cases c28 : x193002_1.length < 4398046511104
         rotate_left
         · (rw [if_neg c28] at H; exact absurd H (by simp))
         rw [if_pos c28] at H
         have LMc28 := Aside0.mk c28
         clear c28
         obtain ⟨y197, hy197⟩ : ∃ y_ : List (S66), y_ = (x193002_1 ++ [(⟨a2_0, a2_1, a2_2, a2_3⟩ : S66)]) := ⟨_, rfl⟩
         replace H : (if 0 ≤ x9_1 then (if x9_1 < (l0_2.length : Int) then (if ((rd_T66 l0_2 x9_1).f0) = a1 then (spec_l14Held.l0 kj17 a1 true (wrap64 (x9_1 + 1)) a0_0 a0_1 l0_2 a2_0 a2_1 a2_2 a2_3 a0_0 a0_1 y197) else (if y197.length < 4398046511104 then (spec_l14Held.l0 kj17 a1 true (wrap64 (x9_1 + 1)) a0_0 a0_1 l0_2 a2_0 a2_1 a2_2 a2_3 a0_0 a0_1 (y197 ++ [(⟨(rd_T66 l0_2 x9_1).f0, (rd_T66 l0_2 x9_1).f1, (rd_T66 l0_2 x9_1).f2, (rd_T66 l0_2 x9_1).f3⟩ : S66)])) else (none))) else (none)) else (none)) = some (r1, r2, r3) := by first | (rw [hy197]; with_reducible exact H) | (have H2_ := (Option.bind_some _ _).symm.trans H; rw [hy197]; with_reducible exact H2_) | (have H2_ := (Option.bind_some _ _).symm.trans H; with_reducible exact H2_) | with_reducible exact H | (rw [hy197]; exact H) | exact H
         have Ny197 := Aside0.mk hy197
         clear hy197
         by_cases c29 : 0 ≤ x9_1
         rotate_left
         · (rw [if_neg c29] at H; exact absurd H (by simp))
         rw [if_pos c29] at H
         have c29b0 : decide (0 ≤ x9_1) = true := decide_eq_true c29
         clear c29
         by_cases c30 : x9_1 < (l0_2.length : Int)
         rotate_left
         · (rw [if_neg c30] at H; exact absurd H (by simp))
         rw [if_pos c30] at H
         have c30b0 : decide (x9_1 < (l0_2.length : Int)) = true := decide_eq_true c30
         clear c30
         by_cases c31 : ((rd_T66 l0_2 x9_1).f0) = a1
         · rw [if_pos c31] at H
           have c31b0 : (((rd_T66 l0_2 x9_1).f0) == a1) = true := beq_iff_eq.mpr c31
           have c31b1 : (((rd_T66 l0_2 x9_1).f0) != a1) = false := bne_eq_false_iff_eq.mpr c31
           clear c31
           have H' := Aside0.mk H
           clear H; have hnb32 := NB192_189.out; have hnc32 := NB189_192.out; have hnb33 := NB192_190.out; have hnc33 := NB190_192.out; have hnb34 := NB192_191.out; have hnc34 := NB191_192.out
           have hcz35_0 : wc.cell? ⟨gb192, 0, none⟩ = some (.int .i64 a0_0) := (blk_cell BK192.out 0).trans rfl
           have hcz35_1 : wc.cell? ⟨gb192, 1, none⟩ = some (.int .i64 a0_1) := (blk_cell BK192.out 1).trans rfl
           have hcz35_2 : wc.cell? ⟨gb192, 2, none⟩ = some (u193002) := (blk_cell BK192.out 2).trans rfl
           have hfz35_0 := blk_frozen BK192.out 0
           have hfz35_1 := blk_frozen BK192.out 1
           have hfz35_2 := blk_frozen BK192.out 2
           have hnb36 := NB190_189.out; have hnc36 := NB189_190.out; have hnb37 := NB190_191.out; have hnc37 := NB191_190.out
           have hcz38_0 : wc.cell? ⟨gb190, 0, none⟩ = some (.int .i64 a2_0) := (blk_cell BK190.out 0).trans rfl
           have hcz38_1 : wc.cell? ⟨gb190, 1, none⟩ = some (.int .i64 a2_1) := (blk_cell BK190.out 1).trans rfl
           have hcz38_2 : wc.cell? ⟨gb190, 2, none⟩ = some (.int .i64 a2_2) := (blk_cell BK190.out 2).trans rfl
           have hcz38_3 : wc.cell? ⟨gb190, 3, none⟩ = some (.int .i64 a2_3) := (blk_cell BK190.out 3).trans rfl
           have hfz38_0 := blk_frozen BK190.out 0
           have hfz38_1 := blk_frozen BK190.out 1
           have hfz38_2 := blk_frozen BK190.out 2
           have hfz38_3 := blk_frozen BK190.out 3
           go_wp2_with (first | ((with_reducible refine gate_builtin (b := .append) (xs := #[.tmp 39, .tmp 41]) rfl ?_); at_builtin; refine Kd.R_append k66 (w0 := w) w.heap.size rfl (.tmp 39) (.tmp 41) 27 66 (.agg #[(.int .i64 0), (.int .i64 0), (.int .i64 0), (.int .i64 0)]) 32 rfl Try.underlying27 info66 rfl (by decide) (by omega) u193002 x193002_1 (⟨a2_0, a2_1, a2_2, a2_3⟩ : S66) [.int .i64 a2_0, .int .i64 a2_1, .int .i64 a2_2, .int .i64 a2_3] (fun k_ => k_ ≠ gb190) (fun _ => False) rfl rfl ?aP (fun _ hk => hk.elim) ?aF ?aO ?aB ?aS ?aL ?_; (case aP => exact k66_mkM _ _ _ (⟨a2_0, a2_1, a2_2, a2_3⟩ : S66)); (case aB => exact (by repeat (first | (with_reducible first | exact HB.out | apply below_alloc | apply pw_below_drewN | apply below_drew1 | refine below_set ?_ GE189.out | refine below_set ?_ GE190.out | refine below_set ?_ GE191.out | refine below_set ?_ GE192.out) | exact HB.out))); (case aF => exact (fun k_ hk => Kd.freshB (g := gb190) (o := .cells #[.int .i64 a2_0, .int .i64 a2_1, .int .i64 a2_2, .int .i64 a2_3] 66 (0, 0)) (nB BK190.out) k_ hk)); (case aO => exact (nR HO_193002.out)); (case aS => exact (below_size (by repeat (first | (with_reducible first | exact HB.out | apply below_alloc | apply pw_below_drewN | apply below_drew1 | refine below_set ?_ GE189.out | refine below_set ?_ GE190.out | refine below_set ?_ GE191.out | refine below_set ?_ GE192.out) | exact HB.out)))); (case aL => have := LMc28.out; omega); intro v198 w39 ho hb hg hat; rw [← Ny197.out] at ho; have n0_ := Aside0.mk (blk_grown (g := gb189) (o := .cells #[.int .i64 a0_0, .int .i64 a0_1, .slice A0_2 l0_2.length c0_2] 29 (0, 0)) (nB BK189.out) hg (Kd.R_ne HO_193002.out BK189.out (by decide))); have n1_ := Aside0.mk (blk_grown (g := gb190) (o := .cells #[.int .i64 a2_0, .int .i64 a2_1, .int .i64 a2_2, .int .i64 a2_3] 66 (0, 0)) (nB BK190.out) hg (Kd.R_away HO_193002.out (fun _ hk => hk))); have n2_ := Aside0.mk (blk_grown (g := gb191) (o := .cells #[.int .i64 0, .int .i64 0, .slice none 0 0] 29 (0, 0)) (nB BK191.out) hg (Kd.R_ne HO_193002.out BK191.out (by decide))); have n3_ := Aside0.mk (blk_grown (g := gb192) (o := .cells #[.int .i64 a0_0, .int .i64 a0_1, u193002] 29 (0, 0)) (nB BK192.out) hg (Kd.R_ne HO_193002.out BK192.out (by decide))); have n4_ := Aside0.mk (hb); have n5_ := Aside0.mk (ho); clear BK189; clear BK190; clear BK191; clear BK192; clear HB; clear HO_193002; have BK189 := n0_; have BK190 := n1_; have BK191 := n2_; have BK192 := n3_; have HB := n4_; have HO199 := n5_; clear n0_ n1_ n2_ n3_ n4_ n5_; clear ho hb hg hat; obtain ⟨Ao40, co40, eo40⟩ := Kd.R_slice HO199.out; subst eo40; have hcz41_0 : w39.cell? ⟨gb192, 0, none⟩ = some (.int .i64 a0_0) := (blk_cell BK192.out 0).trans rfl; have hcz41_1 : w39.cell? ⟨gb192, 1, none⟩ = some (.int .i64 a0_1) := (blk_cell BK192.out 1).trans rfl; have hcz41_2 : w39.cell? ⟨gb192, 2, none⟩ = some (u193002) := (blk_cell BK192.out 2).trans rfl; have hfz41_0 := blk_frozen BK192.out 0; have hfz41_1 := blk_frozen BK192.out 1; have hfz41_2 := blk_frozen BK192.out 2; have hnb42 := NB189_191.out; have hnc42 := NB191_189.out; have hcz43_0 : w39.cell? ⟨gb189, 0, none⟩ = some (.int .i64 a0_0) := (blk_cell BK189.out 0).trans rfl; have hcz43_1 : w39.cell? ⟨gb189, 1, none⟩ = some (.int .i64 a0_1) := (blk_cell BK189.out 1).trans rfl; have hcz43_2 : w39.cell? ⟨gb189, 2, none⟩ = some (.slice A0_2 l0_2.length c0_2) := (blk_cell BK189.out 2).trans rfl; have hfz43_0 := blk_frozen BK189.out 0; have hfz43_1 := blk_frozen BK189.out 1; have hfz43_2 := blk_frozen BK189.out 2; have p200 : 0 ≤ (x9_1 : Int) := of_decide_eq_true nQ; have q200 : x9_1 < (l0_2.length : Int) := of_decide_eq_true nQ; obtain ⟨ad200, e200, hx200_0, hx200_1, hx200_2, hx200_3⟩ := at_T66 HR0_2.out x9_1 p200 q200; cases e200; have hn200_0 : ad200.block ≠ gb192 := Nat.ne_of_lt (Nat.lt_of_lt_of_le (by have := World.block_lt_of_cell? _ _ hx200_0; first | rwa [add_block] at this | exact this) GW192.out); replace hx200_0 := (HB.out.cell (World.block_lt_of_cell? w _ hx200_0)).trans hx200_0; replace hx200_1 := (HB.out.cell (World.block_lt_of_cell? w _ hx200_1)).trans hx200_1; replace hx200_2 := (HB.out.cell (World.block_lt_of_cell? w _ hx200_2)).trans hx200_2; replace hx200_3 := (HB.out.cell (World.block_lt_of_cell? w _ hx200_3)).trans hx200_3; replace hx200_0 := (cell_far (p := ⟨gb192, 2, none⟩) (by first | (rw [add_block]; exact hn200_0) | (show (Addr.add _ _).block ≠ _; rw [add_block]; exact hn200_0) | exact hn200_0) (.slice Ao40 y197.length co40)).trans hx200_0; replace hx200_1 := (cell_far (p := ⟨gb192, 2, none⟩) (by first | (rw [add_block]; exact hn200_0) | (show (Addr.add _ _).block ≠ _; rw [add_block]; exact hn200_0) | exact hn200_0) (.slice Ao40 y197.length co40)).trans hx200_1; replace hx200_2 := (cell_far (p := ⟨gb192, 2, none⟩) (by first | (rw [add_block]; exact hn200_0) | (show (Addr.add _ _).block ≠ _; rw [add_block]; exact hn200_0) | exact hn200_0) (.slice Ao40 y197.length co40)).trans hx200_2; replace hx200_3 := (cell_far (p := ⟨gb192, 2, none⟩) (by first | (rw [add_block]; exact hn200_0) | (show (Addr.add _ _).block ≠ _; rw [add_block]; exact hn200_0) | exact hn200_0) (.slice Ao40 y197.length co40)).trans hx200_3; clear hn200_0; replace p200 := eq_true p200; replace q200 := eq_true q200))
           go_roundg kj17
           case measure => have := HK1.out; have := HJ17.out; omega
           case rel => exact ⟨(true), (wrap64 (x9_1 + 1)), (y197), (.slice Ao40 y197.length co40), nS, nS, H', ⟨by have := HK1.out; have := HJ17.out; omega⟩, ⟨by (with_reducible repeat (first | apply Kd.R_alloc | apply Kd.R_drewN | apply Kd.R_drew)); exact Kd.R_mono (Kd.R_far (p := ⟨gb192, 2, none⟩) (Kd.R_types HO199.out BK192.out (by decide)) (fun _ hk => hk.2) (.slice Ao40 y197.length co40)) (fun _ hk => hk.1)⟩, ⟨by (with_reducible repeat (first | refine blk_drewN ?_ _ | refine blk_drew ?_ | refine blk_alloc ?_ _)); refine blk_far ?_ NB189_192.out _; (with_reducible repeat (first | refine blk_drewN ?_ _ | refine blk_drew ?_ | refine blk_alloc ?_ _)); exact BK189.out⟩, ⟨by (with_reducible repeat (first | refine blk_drewN ?_ _ | refine blk_drew ?_ | refine blk_alloc ?_ _)); refine blk_far ?_ NB190_192.out _; (with_reducible repeat (first | refine blk_drewN ?_ _ | refine blk_drew ?_ | refine blk_alloc ?_ _)); exact BK190.out⟩, ⟨by (with_reducible repeat (first | refine blk_drewN ?_ _ | refine blk_drew ?_ | refine blk_alloc ?_ _)); refine blk_far ?_ NB191_192.out _; (with_reducible repeat (first | refine blk_drewN ?_ _ | refine blk_drew ?_ | refine blk_alloc ?_ _)); exact BK191.out⟩, ⟨by (with_reducible repeat (first | refine blk_drewN ?_ _ | refine blk_drew ?_ | refine blk_alloc ?_ _)); refine blk_put (cs := #[.int .i64 a0_0, .int .i64 a0_1, u193002]) ?_ 2 _ rfl; (with_reducible repeat (first | refine blk_drewN ?_ _ | refine blk_drew ?_ | refine blk_alloc ?_ _)); exact BK192.out⟩, ⟨by repeat (first | (with_reducible first | exact HB.out | apply below_alloc | apply pw_below_drewN | apply below_drew1 | refine below_set ?_ GE189.out | refine below_set ?_ GE190.out | refine below_set ?_ GE191.out | refine below_set ?_ GE192.out) | exact HB.out)⟩⟩
         · rw [if_neg c31] at H
           have c31b0 : (((rd_T66 l0_2 x9_1).f0) == a1) = false := beq_eq_false_iff_ne.mpr c31
           have c31b1 : (((rd_T66 l0_2 x9_1).f0) != a1) = true := bne_iff_ne.mpr c31
           by_cases c44 : y197.length < 4398046511104
           rotate_left
           · (rw [if_neg c44] at H; exact absurd H (by simp))
           rw [if_pos c44] at H
           have LMc44 := Aside0.mk c44
           clear c44
           obtain ⟨y202, hy202⟩ : ∃ y_ : List (S66), y_ = (y197 ++ [(⟨(rd_T66 l0_2 x9_1).f0, (rd_T66 l0_2 x9_1).f1, (rd_T66 l0_2 x9_1).f2, (rd_T66 l0_2 x9_1).f3⟩ : S66)]) := ⟨_, rfl⟩
           replace H : (spec_l14Held.l0 kj17 a1 true (wrap64 (x9_1 + 1)) a0_0 a0_1 l0_2 a2_0 a2_1 a2_2 a2_3 a0_0 a0_1 y202) = some (r1, r2, r3) := by first | (rw [hy202]; with_reducible exact H) | (have H2_ := (Option.bind_some _ _).symm.trans H; rw [hy202]; with_reducible exact H2_) | (have H2_ := (Option.bind_some _ _).symm.trans H; with_reducible exact H2_) | with_reducible exact H | (rw [hy202]; exact H) | exact H
           have Ny202 := Aside0.mk hy202
           clear hy202
           have H' := Aside0.mk H
           clear H; have hnb45 := NB192_189.out; have hnc45 := NB189_192.out; have hnb46 := NB192_190.out; have hnc46 := NB190_192.out; have hnb47 := NB192_191.out; have hnc47 := NB191_192.out
           have hcz48_0 : wc.cell? ⟨gb192, 0, none⟩ = some (.int .i64 a0_0) := (blk_cell BK192.out 0).trans rfl
           have hcz48_1 : wc.cell? ⟨gb192, 1, none⟩ = some (.int .i64 a0_1) := (blk_cell BK192.out 1).trans rfl
           have hcz48_2 : wc.cell? ⟨gb192, 2, none⟩ = some (u193002) := (blk_cell BK192.out 2).trans rfl
           have hfz48_0 := blk_frozen BK192.out 0
           have hfz48_1 := blk_frozen BK192.out 1
           have hfz48_2 := blk_frozen BK192.out 2
           have hnb49 := NB190_189.out; have hnc49 := NB189_190.out; have hnb50 := NB190_191.out; have hnc50 := NB191_190.out
           have hcz51_0 : wc.cell? ⟨gb190, 0, none⟩ = some (.int .i64 a2_0) := (blk_cell BK190.out 0).trans rfl
           have hcz51_1 : wc.cell? ⟨gb190, 1, none⟩ = some (.int .i64 a2_1) := (blk_cell BK190.out 1).trans rfl
           have hcz51_2 : wc.cell? ⟨gb190, 2, none⟩ = some (.int .i64 a2_2) := (blk_cell BK190.out 2).trans rfl
           have hcz51_3 : wc.cell? ⟨gb190, 3, none⟩ = some (.int .i64 a2_3) := (blk_cell BK190.out 3).trans rfl
           have hfz51_0 := blk_frozen BK190.out 0
           have hfz51_1 := blk_frozen BK190.out 1
           have hfz51_2 := blk_frozen BK190.out 2
           have hfz51_3 := blk_frozen BK190.out 3
           try go_wp2_with (first | ((with_reducible refine gate_builtin (b := .append) (xs := #[.tmp 39, .tmp 41]) rfl ?_); at_builtin; refine Kd.R_append k66 (w0 := w) w.heap.size rfl (.tmp 39) (.tmp 41) 27 66 (.agg #[(.int .i64 0), (.int .i64 0), (.int .i64 0), (.int .i64 0)]) 32 rfl Try.underlying27 info66 rfl (by decide) (by omega) u193002 x193002_1 (⟨a2_0, a2_1, a2_2, a2_3⟩ : S66) [.int .i64 a2_0, .int .i64 a2_1, .int .i64 a2_2, .int .i64 a2_3] (fun k_ => k_ ≠ gb190) (fun _ => False) rfl rfl ?aP (fun _ hk => hk.elim) ?aF ?aO ?aB ?aS ?aL ?_; (case aP => exact k66_mkM _ _ _ (⟨a2_0, a2_1, a2_2, a2_3⟩ : S66)); (case aB => exact (by repeat (first | (with_reducible first | exact HB.out | apply below_alloc | apply pw_below_drewN | apply below_drew1 | refine below_set ?_ GE189.out | refine below_set ?_ GE190.out | refine below_set ?_ GE191.out | refine below_set ?_ GE192.out) | exact HB.out))); (case aF => exact (fun k_ hk => Kd.freshB (g := gb190) (o := .cells #[.int .i64 a2_0, .int .i64 a2_1, .int .i64 a2_2, .int .i64 a2_3] 66 (0, 0)) (nB BK190.out) k_ hk)); (case aO => exact (nR HO_193002.out)); (case aS => exact (below_size (by repeat (first | (with_reducible first | exact HB.out | apply below_alloc | apply pw_below_drewN | apply below_drew1 | refine below_set ?_ GE189.out | refine below_set ?_ GE190.out | refine below_set ?_ GE191.out | refine below_set ?_ GE192.out) | exact HB.out)))); (case aL => have := LMc28.out; omega); intro v198 w52 ho hb hg hat; rw [← Ny197.out] at ho; have n0_ := Aside0.mk (blk_grown (g := gb189) (o := .cells #[.int .i64 a0_0, .int .i64 a0_1, .slice A0_2 l0_2.length c0_2] 29 (0, 0)) (nB BK189.out) hg (Kd.R_ne HO_193002.out BK189.out (by decide))); have n1_ := Aside0.mk (blk_grown (g := gb190) (o := .cells #[.int .i64 a2_0, .int .i64 a2_1, .int .i64 a2_2, .int .i64 a2_3] 66 (0, 0)) (nB BK190.out) hg (Kd.R_away HO_193002.out (fun _ hk => hk))); have n2_ := Aside0.mk (blk_grown (g := gb191) (o := .cells #[.int .i64 0, .int .i64 0, .slice none 0 0] 29 (0, 0)) (nB BK191.out) hg (Kd.R_ne HO_193002.out BK191.out (by decide))); have n3_ := Aside0.mk (blk_grown (g := gb192) (o := .cells #[.int .i64 a0_0, .int .i64 a0_1, u193002] 29 (0, 0)) (nB BK192.out) hg (Kd.R_ne HO_193002.out BK192.out (by decide))); have n4_ := Aside0.mk (hb); have n5_ := Aside0.mk (ho); clear BK189; clear BK190; clear BK191; clear BK192; clear HB; clear HO_193002; have BK189 := n0_; have BK190 := n1_; have BK191 := n2_; have BK192 := n3_; have HB := n4_; have HO199 := n5_; clear n0_ n1_ n2_ n3_ n4_ n5_; clear ho hb hg hat; obtain ⟨Ao53, co53, eo53⟩ := Kd.R_slice HO199.out; subst eo53; have hcz54_0 : w52.cell? ⟨gb192, 0, none⟩ = some (.int .i64 a0_0) := (blk_cell BK192.out 0).trans rfl; have hcz54_1 : w52.cell? ⟨gb192, 1, none⟩ = some (.int .i64 a0_1) := (blk_cell BK192.out 1).trans rfl; have hcz54_2 : w52.cell? ⟨gb192, 2, none⟩ = some (u193002) := (blk_cell BK192.out 2).trans rfl; have hfz54_0 := blk_frozen BK192.out 0; have hfz54_1 := blk_frozen BK192.out 1; have hfz54_2 := blk_frozen BK192.out 2; have hnb55 := NB189_191.out; have hnc55 := NB191_189.out; have hcz56_0 : w52.cell? ⟨gb189, 0, none⟩ = some (.int .i64 a0_0) := (blk_cell BK189.out 0).trans rfl; have hcz56_1 : w52.cell? ⟨gb189, 1, none⟩ = some (.int .i64 a0_1) := (blk_cell BK189.out 1).trans rfl; have hcz56_2 : w52.cell? ⟨gb189, 2, none⟩ = some (.slice A0_2 l0_2.length c0_2) := (blk_cell BK189.out 2).trans rfl; have hfz56_0 := blk_frozen BK189.out 0; have hfz56_1 := blk_frozen BK189.out 1; have hfz56_2 := blk_frozen BK189.out 2; have p200 : 0 ≤ (x9_1 : Int) := of_decide_eq_true nQ; have q200 : x9_1 < (l0_2.length : Int) := of_decide_eq_true nQ; obtain ⟨ad200, e200, hx200_0, hx200_1, hx200_2, hx200_3⟩ := at_T66 HR0_2.out x9_1 p200 q200; cases e200; have hn200_0 : ad200.block ≠ gb192 := Nat.ne_of_lt (Nat.lt_of_lt_of_le (by have := World.block_lt_of_cell? _ _ hx200_0; first | rwa [add_block] at this | exact this) GW192.out); replace hx200_0 := (HB.out.cell (World.block_lt_of_cell? w _ hx200_0)).trans hx200_0; replace hx200_1 := (HB.out.cell (World.block_lt_of_cell? w _ hx200_1)).trans hx200_1; replace hx200_2 := (HB.out.cell (World.block_lt_of_cell? w _ hx200_2)).trans hx200_2; replace hx200_3 := (HB.out.cell (World.block_lt_of_cell? w _ hx200_3)).trans hx200_3; replace hx200_0 := (cell_far (p := ⟨gb192, 2, none⟩) (by first | (rw [add_block]; exact hn200_0) | (show (Addr.add _ _).block ≠ _; rw [add_block]; exact hn200_0) | exact hn200_0) (.slice Ao53 y197.length co53)).trans hx200_0; replace hx200_1 := (cell_far (p := ⟨gb192, 2, none⟩) (by first | (rw [add_block]; exact hn200_0) | (show (Addr.add _ _).block ≠ _; rw [add_block]; exact hn200_0) | exact hn200_0) (.slice Ao53 y197.length co53)).trans hx200_1; replace hx200_2 := (cell_far (p := ⟨gb192, 2, none⟩) (by first | (rw [add_block]; exact hn200_0) | (show (Addr.add _ _).block ≠ _; rw [add_block]; exact hn200_0) | exact hn200_0) (.slice Ao53 y197.length co53)).trans hx200_2; replace hx200_3 := (cell_far (p := ⟨gb192, 2, none⟩) (by first | (rw [add_block]; exact hn200_0) | (show (Addr.add _ _).block ≠ _; rw [add_block]; exact hn200_0) | exact hn200_0) (.slice Ao53 y197.length co53)).trans hx200_3; clear hn200_0; replace p200 := eq_true p200; replace q200 := eq_true q200))
           have n0_ : Aside0 (Kd.R k66 66 (w52.setCell ⟨gb192, 2, none⟩ (.slice Ao53 y197.length co53)) w.heap.size (fun k_ => k_ ≠ gb190) (.slice Ao53 y197.length co53) y197) := ⟨by (with_reducible repeat (first | apply Kd.R_alloc | apply Kd.R_drewN | apply Kd.R_drew)); exact Kd.R_mono (Kd.R_far (p := ⟨gb192, 2, none⟩) (Kd.R_types HO199.out BK192.out (by decide)) (fun _ hk => hk.2) (.slice Ao53 y197.length co53)) (fun _ hk => hk.1)⟩
           have n1_ : Aside0 ((w52.setCell ⟨gb192, 2, none⟩ (.slice Ao53 y197.length co53)).heap[gb189]? = some (.cells #[.int .i64 a0_0, .int .i64 a0_1, .slice (some ad200) l0_2.length c0_2] 29 (0, 0))) := ⟨by (with_reducible repeat (first | refine blk_drewN ?_ _ | refine blk_drew ?_ | refine blk_alloc ?_ _)); refine blk_far ?_ NB189_192.out _; (with_reducible repeat (first | refine blk_drewN ?_ _ | refine blk_drew ?_ | refine blk_alloc ?_ _)); exact BK189.out⟩
           have n2_ : Aside0 ((w52.setCell ⟨gb192, 2, none⟩ (.slice Ao53 y197.length co53)).heap[gb190]? = some (.cells #[.int .i64 a2_0, .int .i64 a2_1, .int .i64 a2_2, .int .i64 a2_3] 66 (0, 0))) := ⟨by (with_reducible repeat (first | refine blk_drewN ?_ _ | refine blk_drew ?_ | refine blk_alloc ?_ _)); refine blk_far ?_ NB190_192.out _; (with_reducible repeat (first | refine blk_drewN ?_ _ | refine blk_drew ?_ | refine blk_alloc ?_ _)); exact BK190.out⟩
           have n3_ : Aside0 ((w52.setCell ⟨gb192, 2, none⟩ (.slice Ao53 y197.length co53)).heap[gb191]? = some (.cells #[.int .i64 0, .int .i64 0, .slice none 0 0] 29 (0, 0))) := ⟨by (with_reducible repeat (first | refine blk_drewN ?_ _ | refine blk_drew ?_ | refine blk_alloc ?_ _)); refine blk_far ?_ NB191_192.out _; (with_reducible repeat (first | refine blk_drewN ?_ _ | refine blk_drew ?_ | refine blk_alloc ?_ _)); exact BK191.out⟩
           have n4_ : Aside0 ((w52.setCell ⟨gb192, 2, none⟩ (.slice Ao53 y197.length co53)).heap[gb192]? = some (.cells #[.int .i64 a0_0, .int .i64 a0_1, .slice Ao53 y197.length co53] 29 (0, 0))) := ⟨by (with_reducible repeat (first | refine blk_drewN ?_ _ | refine blk_drew ?_ | refine blk_alloc ?_ _)); refine blk_put (cs := #[.int .i64 a0_0, .int .i64 a0_1, u193002]) ?_ 2 _ rfl; (with_reducible repeat (first | refine blk_drewN ?_ _ | refine blk_drew ?_ | refine blk_alloc ?_ _)); exact BK192.out⟩
           have n5_ : Aside0 (Below w.heap.size w (w52.setCell ⟨gb192, 2, none⟩ (.slice Ao53 y197.length co53))) := ⟨by repeat (first | (with_reducible first | exact HB.out | apply below_alloc | apply pw_below_drewN | apply below_drew1 | refine below_set ?_ GE189.out | refine below_set ?_ GE190.out | refine below_set ?_ GE191.out | refine below_set ?_ GE192.out) | exact HB.out)⟩
           (try clear HO199); (try clear BK189); (try clear BK190); (try clear BK191); (try clear BK192); (try clear HB)
           generalize (w52.setCell ⟨gb192, 2, none⟩ (.slice Ao53 y197.length co53)) = w57 at n0_ n1_ n2_ n3_ n4_ n5_ ⊢
           have HO199 := n0_; have BK189 := n1_; have BK190 := n2_; have BK191 := n3_; have BK192 := n4_; have HB := n5_; clear n0_ n1_ n2_ n3_ n4_ n5_
           have n0_ := Aside0.mk (Kd.R_drew HO199.out)
           have n1_ := Aside0.mk (blk_drew BK189.out)
           have n2_ := Aside0.mk (blk_drew BK190.out)
           have n3_ := Aside0.mk (blk_drew BK191.out)
           have n4_ := Aside0.mk (blk_drew BK192.out)
           have n5_ := Aside0.mk (below_drew1 HB.out)
           clear HO199; clear BK189; clear BK190; clear BK191; clear BK192; clear HB; have HO199 := n0_; have BK189 := n1_; have BK190 := n2_; have BK191 := n3_; have BK192 := n4_; have HB := n5_; clear n0_ n1_ n2_ n3_ n4_ n5_
           have p201 : 0 ≤ (x9_1 : Int) := of_decide_eq_true nQ
           have q201 : x9_1 < (l0_2.length : Int) := of_decide_eq_true nQ
           obtain ⟨ad201, e201, hx201_0, hx201_1, hx201_2, hx201_3⟩ := at_T66 HR0_2.out x9_1 p201 q201
           have hw201_3 := hx201_3; have hw201_2 := hx201_2; have hw201_1 := hx201_1; have hw201_0 := hx201_0
           obtain rfl : ad200 = ad201 := (by injection e201)
           replace hx201_0 := (HB.out.cell (World.block_lt_of_cell? w _ hx201_0)).trans hx201_0
           replace hx201_1 := (HB.out.cell (World.block_lt_of_cell? w _ hx201_1)).trans hx201_1
           replace hx201_2 := (HB.out.cell (World.block_lt_of_cell? w _ hx201_2)).trans hx201_2
           replace hx201_3 := (HB.out.cell (World.block_lt_of_cell? w _ hx201_3)).trans hx201_3
           replace p201 := eq_true p201; replace q201 := eq_true q201
           refine start_ (n := 11) (S := fun w' => w'.cell? ⟨gb192, 0, none⟩ = some (.int .i64 a0_0) ∧ w'.cell? ⟨gb192, 1, none⟩ = some (.int .i64 a0_1) ∧ w'.cell? ⟨gb192, 2, none⟩ = some (.slice Ao53 y197.length co53) ∧ w'.cell? ⟨gb189, 0, none⟩ = some (.int .i64 a0_0) ∧ w'.cell? ⟨gb189, 1, none⟩ = some (.int .i64 a0_1) ∧ w'.cell? ⟨gb189, 2, none⟩ = some (.slice (some ad200) l0_2.length c0_2) ∧ w'.cell? (ad200.add ((x9_1).toNat * 4)) = some (.int .i64 ((rd_T66 l0_2 x9_1).f0)) ∧ w'.cell? ⟨(ad200.add ((x9_1).toNat * 4)).block, (ad200.add ((x9_1).toNat * 4)).off + 1, none⟩ = some (.int .i64 ((rd_T66 l0_2 x9_1).f1)) ∧ w'.cell? ⟨(ad200.add ((x9_1).toNat * 4)).block, (ad200.add ((x9_1).toNat * 4)).off + 2, none⟩ = some (.int .i64 ((rd_T66 l0_2 x9_1).f2)) ∧ w'.cell? ⟨(ad200.add ((x9_1).toNat * 4)).block, (ad200.add ((x9_1).toNat * 4)).off + 3, none⟩ = some (.int .i64 ((rd_T66 l0_2 x9_1).f3))) (ds := [10]) #[F,F,F,F,F,F,F,F,F,F,F] (by kernel_rfl) rfl rfl ⟨(blk_cell BK192.out 0).trans rfl, (blk_cell BK192.out 1).trans rfl, (blk_cell BK192.out 2).trans rfl, (blk_cell BK189.out 0).trans rfl, (blk_cell BK189.out 1).trans rfl, (blk_cell BK189.out 2).trans rfl, (nC HB.out hw201_0 :), (nC HB.out hw201_1 :), (nC HB.out hw201_2 :), (nC HB.out hw201_3 :)⟩ (fun hHeld => ?_); refine with_tabW spec_l14Held.tab10 spec_l14Held.bits10 (fun HT_ HW_ => ?_)
           generalize w57.drew = w58 at HO199 BK189 BK190 BK191 BK192 HB hx201_0 hx201_1 hx201_2 hx201_3 hHeld ⊢
           refine pU 0 (some 52) #[T,F,F,F,F,F,F,F,F,F,F] rfl rfl HT_.out ?_
           refine pU 2 (some 54) #[T,F,T,F,F,F,F,F,F,F,F] rfl rfl HT_.out ?_
           refine pU 4 (some 56) #[T,F,T,F,T,F,F,F,F,F,F] rfl rfl HT_.out ?_
           refine tU10 1 (some 53) #[T,T,T,F,T,F,F,F,F,F,F] rfl rfl HT_.out HW_.out hHeld ?_
           refine tU10 3 (some 55) #[T,T,T,T,T,F,F,F,F,F,F] rfl rfl HT_.out HW_.out hHeld ?_
           refine pU 5 (some 57) #[T,T,T,T,T,T,F,F,F,F,F] rfl rfl HT_.out ?_
           refine tU10 6 (some 58) #[T,T,T,T,T,T,T,F,F,F,F] rfl rfl HT_.out HW_.out hHeld ?_
           refine one_ (i := 7) (N := some 59) #[T,T,T,T,T,T,T,T,F,F,F] rfl rfl (one_of HT_.out (by kernel_rfl)) (by decide) (fun K hK => ?_)
           refine value_ (w1 := ?_) (v := ?_) (by rfl) rfl ?_ ?_
           rotate_left 2
           · go_simp
             constructor
             · rfl
             · rfl
           refine hK.out _ _ ⟨(blk_cell (blk_alloc BK192.out _) 0).trans rfl, (blk_cell (blk_alloc BK192.out _) 1).trans rfl, (blk_cell (blk_alloc BK192.out _) 2).trans rfl, (blk_cell (blk_alloc BK189.out _) 0).trans rfl, (blk_cell (blk_alloc BK189.out _) 1).trans rfl, (blk_cell (blk_alloc BK189.out _) 2).trans rfl, (World.cell?_alloc_lt _ _ _ (World.block_lt_of_cell? _ _ ((nC HB.out hw201_0 :)))).trans ((nC HB.out hw201_0 :)), (World.cell?_alloc_lt _ _ _ (World.block_lt_of_cell? _ _ ((nC HB.out hw201_1 :)))).trans ((nC HB.out hw201_1 :)), (World.cell?_alloc_lt _ _ _ (World.block_lt_of_cell? _ _ ((nC HB.out hw201_2 :)))).trans ((nC HB.out hw201_2 :)), (World.cell?_alloc_lt _ _ _ (World.block_lt_of_cell? _ _ ((nC HB.out hw201_3 :)))).trans ((nC HB.out hw201_3 :))⟩ (fun hHeld => ?_)
           clear hK K
           refine norm_ (a' := ?_) ?_ ?_
           rotate_left
           · show Act.put _ (some 59) _ = _
             simp only [Act.put, List.setIfInBounds_toArray, List.set_cons_zero, List.set_cons_succ, i64_w, i32_w]
             rfl
           refine one_ (i := 8) (N := some 60) #[T,T,T,T,T,T,T,T,T,F,F] rfl rfl (one_of HT_.out (by kernel_rfl)) (by decide) (fun K hK => ?_)
           refine Kd.R_append_step k66 (w0 := w) w.heap.size (by rfl) (.tmp 53) (.tmp 59) 27 66 (.agg #[(.int .i64 0), (.int .i64 0), (.int .i64 0), (.int .i64 0)]) 32 rfl Try.underlying27 info66 rfl (by decide) (by omega) (.slice Ao53 y197.length co53) y197 (⟨(rd_T66 l0_2 x9_1).f0, (rd_T66 l0_2 x9_1).f1, (rd_T66 l0_2 x9_1).f2, (rd_T66 l0_2 x9_1).f3⟩ : S66) [.int .i64 ((rd_T66 l0_2 x9_1).f0), .int .i64 ((rd_T66 l0_2 x9_1).f1), .int .i64 ((rd_T66 l0_2 x9_1).f2), .int .i64 ((rd_T66 l0_2 x9_1).f3)] (fun k_ => k_ ≠ gb190) (fun _ => False) rfl rfl ?aP (fun _ hk => hk.elim) ?aF ?aO ?aB ?aS ?aL ?_
           (case aP => exact k66_mkM _ _ _ (⟨(rd_T66 l0_2 x9_1).f0, (rd_T66 l0_2 x9_1).f1, (rd_T66 l0_2 x9_1).f2, (rd_T66 l0_2 x9_1).f3⟩ : S66))
           (case aB => exact (by repeat (first | (with_reducible first | exact HB.out | apply below_alloc | apply pw_below_drewN | apply below_drew1 | refine below_set ?_ GE189.out | refine below_set ?_ GE190.out | refine below_set ?_ GE191.out | refine below_set ?_ GE192.out) | exact HB.out)))
           (case aF => exact (fun k_ hk => Kd.freshB (g := gb190) (o := .cells #[.int .i64 a2_0, .int .i64 a2_1, .int .i64 a2_2, .int .i64 a2_3] 66 (0, 0)) (nB BK190.out) k_ hk))
           (case aO => exact (nR HO199.out))
           (case aS => exact (below_size (by repeat (first | (with_reducible first | exact HB.out | apply below_alloc | apply pw_below_drewN | apply below_drew1 | refine below_set ?_ GE189.out | refine below_set ?_ GE190.out | refine below_set ?_ GE191.out | refine below_set ?_ GE192.out) | exact HB.out))))
           (case aL => have := LMc44.out; omega)
           intro v203 w59 ho hb hg hat
           rw [← Ny202.out] at ho
           have n0_ := Aside0.mk (blk_grown (g := gb189) (o := .cells #[.int .i64 a0_0, .int .i64 a0_1, .slice (some ad200) l0_2.length c0_2] 29 (0, 0)) (nB BK189.out) hg (Kd.R_ne HO199.out BK189.out (by decide)))
           have n1_ := Aside0.mk (blk_grown (g := gb190) (o := .cells #[.int .i64 a2_0, .int .i64 a2_1, .int .i64 a2_2, .int .i64 a2_3] 66 (0, 0)) (nB BK190.out) hg (Kd.R_away HO199.out (fun _ hk => hk)))
           have n2_ := Aside0.mk (blk_grown (g := gb191) (o := .cells #[.int .i64 0, .int .i64 0, .slice none 0 0] 29 (0, 0)) (nB BK191.out) hg (Kd.R_ne HO199.out BK191.out (by decide)))
           have n3_ := Aside0.mk (blk_grown (g := gb192) (o := .cells #[.int .i64 a0_0, .int .i64 a0_1, .slice Ao53 y197.length co53] 29 (0, 0)) (nB BK192.out) hg (Kd.R_ne HO199.out BK192.out (by decide)))
           have n4_ := Aside0.mk (hb)
           have n5_ := Aside0.mk (ho)
           clear BK189; clear BK190; clear BK191; clear BK192; clear HB; clear HO199; have BK189 := n0_; have BK190 := n1_; have BK191 := n2_; have BK192 := n3_; have HB := n4_; have HO204 := n5_; clear n0_ n1_ n2_ n3_ n4_ n5_; clear ho hb hg hat
           obtain ⟨Ao60, co60, eo60⟩ := Kd.R_slice HO204.out
           (first | subst eo60 | (injection eo60 with f1_ f2_ f3_; have f4_ := f1_.symm; have f5_ := f3_.symm; clear f1_ f2_ f3_; subst f4_; subst f5_))
           refine hK.out _ _ ⟨(blk_cell BK192.out 0).trans rfl, (blk_cell BK192.out 1).trans rfl, (blk_cell BK192.out 2).trans rfl, (blk_cell BK189.out 0).trans rfl, (blk_cell BK189.out 1).trans rfl, (blk_cell BK189.out 2).trans rfl, (nC HB.out hw201_0 :), (nC HB.out hw201_1 :), (nC HB.out hw201_2 :), (nC HB.out hw201_3 :)⟩ (fun hHeld => ?_)
           clear hK K
           refine norm_ (a' := ?_) ?_ ?_
           rotate_left
           · show Act.put _ (some 60) _ = _
             simp only [Act.put, List.setIfInBounds_toArray, List.set_cons_zero, List.set_cons_succ, i64_w, i32_w]
             rfl
           refine pU 9 (some 61) #[T,T,T,T,T,T,T,T,T,T,F] rfl rfl HT_.out ?_
           refine last_ (i := 10) (N := none) #[T,T,T,T,T,T,T,T,T,T,T] rfl rfl (one_of HT_.out (by kernel_rfl)) (by decide) (fun K hK => ?_)
           have hs61 : w59.cell? ⟨gb192, 2, none⟩ = some (.slice Ao53 y197.length co53) := (blk_cell BK192.out 2).trans rfl
           have hfs61 := blk_frozen BK192.out 2
           have hns61_0 := NB189_192.out; have hns61_1 := NB190_192.out; have hns61_2 := NB191_192.out; have hms61_0 := NB192_189.out; have hms61_1 := NB192_190.out; have hms61_2 := NB192_191.out
           refine skip_ (w1 := ?_) (by rfl) rfl ?_ ?_
           rotate_left
           · go_simp; rfl
           refine hK.out _ _ ?_
           clear hK K
           refine done_ (done_of HT_.out (by kernel_rfl)) ?_
           try go_wp2
           go_roundg kj17
           case measure => have := HK1.out; have := HJ17.out; omega
           case rel => exact ⟨(true), (wrap64 (x9_1 + 1)), (y202), (.slice Ao60 y202.length co60), nS, nS, H', ⟨by have := HK1.out; have := HJ17.out; omega⟩, ⟨by (with_reducible repeat (first | apply Kd.R_alloc | apply Kd.R_drewN | apply Kd.R_drew)); exact Kd.R_mono (Kd.R_far (p := ⟨gb192, 2, none⟩) (Kd.R_types HO204.out BK192.out (by decide)) (fun _ hk => hk.2) (.slice Ao60 y202.length co60)) (fun _ hk => hk.1)⟩, ⟨by (with_reducible repeat (first | refine blk_drewN ?_ _ | refine blk_drew ?_ | refine blk_alloc ?_ _)); refine blk_far ?_ NB189_192.out _; (with_reducible repeat (first | refine blk_drewN ?_ _ | refine blk_drew ?_ | refine blk_alloc ?_ _)); exact BK189.out⟩, ⟨by (with_reducible repeat (first | refine blk_drewN ?_ _ | refine blk_drew ?_ | refine blk_alloc ?_ _)); refine blk_far ?_ NB190_192.out _; (with_reducible repeat (first | refine blk_drewN ?_ _ | refine blk_drew ?_ | refine blk_alloc ?_ _)); exact BK190.out⟩, ⟨by (with_reducible repeat (first | refine blk_drewN ?_ _ | refine blk_drew ?_ | refine blk_alloc ?_ _)); refine blk_far ?_ NB191_192.out _; (with_reducible repeat (first | refine blk_drewN ?_ _ | refine blk_drew ?_ | refine blk_alloc ?_ _)); exact BK191.out⟩, ⟨by (with_reducible repeat (first | refine blk_drewN ?_ _ | refine blk_drew ?_ | refine blk_alloc ?_ _)); refine blk_put (cs := #[.int .i64 a0_0, .int .i64 a0_1, .slice Ao53 y197.length co53]) ?_ 2 _ rfl; (with_reducible repeat (first | refine blk_drewN ?_ _ | refine blk_drew ?_ | refine blk_alloc ?_ _)); exact BK192.out⟩, ⟨by repeat (first | (with_reducible first | exact HB.out | apply below_alloc | apply pw_below_drewN | apply below_drew1 | refine below_set ?_ GE189.out | refine below_set ?_ GE190.out | refine below_set ?_ GE191.out | refine below_set ?_ GE192.out) | exact HB.out)⟩⟩
       · replace c27 := Bool.eq_false_iff.mpr c27
         subst c27
         have H1 : (if 0 ≤ x9_1 then (if x9_1 < (l0_2.length : Int) then (if ((rd_T66 l0_2 x9_1).f0) = a1 then (spec_l14Held.l0 kj17 a1 x8_1 (wrap64 (x9_1 + 1)) a0_0 a0_1 l0_2 a2_0 a2_1 a2_2 a2_3 a0_0 a0_1 x193002_1) else (if x193002_1.length < 4398046511104 then (spec_l14Held.l0 kj17 a1 x8_1 (wrap64 (x9_1 + 1)) a0_0 a0_1 l0_2 a2_0 a2_1 a2_2 a2_3 a0_0 a0_1 (x193002_1 ++ [(⟨(rd_T66 l0_2 x9_1).f0, (rd_T66 l0_2 x9_1).f1, (rd_T66 l0_2 x9_1).f2, (rd_T66 l0_2 x9_1).f3⟩ : S66)])) else (none))) else (none)) else (none)) = some (r1, r2, r3) := by rw [if_neg (show ¬ (false = true) by decide)] at H; exact H
         clear H; have H := H1; clear H1
         by_cases c62 : 0 ≤ x9_1
         rotate_left
         · (rw [if_neg c62] at H; exact absurd H (by simp))
         rw [if_pos c62] at H
         have c62b0 : decide (0 ≤ x9_1) = true := decide_eq_true c62
         clear c62
         by_cases c63 : x9_1 < (l0_2.length : Int)
         rotate_left
         · (rw [if_neg c63] at H; exact absurd H (by simp))
         rw [if_pos c63] at H
         have c63b0 : decide (x9_1 < (l0_2.length : Int)) = true := decide_eq_true c63
         clear c63
         by_cases c64 : ((rd_T66 l0_2 x9_1).f0) = a1
         · rw [if_pos c64] at H
           have c64b0 : (((rd_T66 l0_2 x9_1).f0) == a1) = true := beq_iff_eq.mpr c64
           have c64b1 : (((rd_T66 l0_2 x9_1).f0) != a1) = false := bne_eq_false_iff_eq.mpr c64
           clear c64
           have H' := Aside0.mk H
           clear H; have hnb65 := NB189_190.out; have hnc65 := NB190_189.out; have hnb66 := NB189_191.out; have hnc66 := NB191_189.out; have hnb67 := NB189_192.out; have hnc67 := NB192_189.out
           have hcz68_0 : wc.cell? ⟨gb189, 0, none⟩ = some (.int .i64 a0_0) := (blk_cell BK189.out 0).trans rfl
           have hcz68_1 : wc.cell? ⟨gb189, 1, none⟩ = some (.int .i64 a0_1) := (blk_cell BK189.out 1).trans rfl
           have hcz68_2 : wc.cell? ⟨gb189, 2, none⟩ = some (.slice A0_2 l0_2.length c0_2) := (blk_cell BK189.out 2).trans rfl
           have hfz68_0 := blk_frozen BK189.out 0
           have hfz68_1 := blk_frozen BK189.out 1
           have hfz68_2 := blk_frozen BK189.out 2
           have p205 : 0 ≤ (x9_1 : Int) := of_decide_eq_true nQ
           have q205 : x9_1 < (l0_2.length : Int) := of_decide_eq_true nQ
           obtain ⟨ad205, e205, hx205_0, hx205_1, hx205_2, hx205_3⟩ := at_T66 HR0_2.out x9_1 p205 q205
           cases e205
           replace hx205_0 := (HB.out.cell (World.block_lt_of_cell? w _ hx205_0)).trans hx205_0
           replace hx205_1 := (HB.out.cell (World.block_lt_of_cell? w _ hx205_1)).trans hx205_1
           replace hx205_2 := (HB.out.cell (World.block_lt_of_cell? w _ hx205_2)).trans hx205_2
           replace hx205_3 := (HB.out.cell (World.block_lt_of_cell? w _ hx205_3)).trans hx205_3
           replace p205 := eq_true p205; replace q205 := eq_true q205; go_wp2
           go_roundg kj17
           case measure => have := HK1.out; have := HJ17.out; omega
           case rel => exact ⟨(x8_1), (wrap64 (x9_1 + 1)), (x193002_1), (u193002), nS, nS, H', ⟨by have := HK1.out; have := HJ17.out; omega⟩, ⟨by (with_reducible repeat (first | apply Kd.R_alloc | apply Kd.R_drewN | apply Kd.R_drew)); exact HO_193002.out⟩, ⟨by (with_reducible repeat (first | refine blk_drewN ?_ _ | refine blk_drew ?_ | refine blk_alloc ?_ _)); exact BK189.out⟩, ⟨by (with_reducible repeat (first | refine blk_drewN ?_ _ | refine blk_drew ?_ | refine blk_alloc ?_ _)); exact BK190.out⟩, ⟨by (with_reducible repeat (first | refine blk_drewN ?_ _ | refine blk_drew ?_ | refine blk_alloc ?_ _)); exact BK191.out⟩, ⟨by (with_reducible repeat (first | refine blk_drewN ?_ _ | refine blk_drew ?_ | refine blk_alloc ?_ _)); exact BK192.out⟩, ⟨by repeat (first | (with_reducible first | exact HB.out | apply below_alloc | apply pw_below_drewN | apply below_drew1 | refine below_set ?_ GE189.out | refine below_set ?_ GE190.out | refine below_set ?_ GE191.out | refine below_set ?_ GE192.out) | exact HB.out)⟩⟩
         · rw [if_neg c64] at H
           have c64b0 : (((rd_T66 l0_2 x9_1).f0) == a1) = false := beq_eq_false_iff_ne.mpr c64
           have c64b1 : (((rd_T66 l0_2 x9_1).f0) != a1) = true := bne_iff_ne.mpr c64
           by_cases c69 : x193002_1.length < 4398046511104
           rotate_left
           · (rw [if_neg c69] at H; exact absurd H (by simp))
           rw [if_pos c69] at H
           have LMc69 := Aside0.mk c69
           clear c69
           obtain ⟨y207, hy207⟩ : ∃ y_ : List (S66), y_ = (x193002_1 ++ [(⟨(rd_T66 l0_2 x9_1).f0, (rd_T66 l0_2 x9_1).f1, (rd_T66 l0_2 x9_1).f2, (rd_T66 l0_2 x9_1).f3⟩ : S66)]) := ⟨_, rfl⟩
           replace H : (spec_l14Held.l0 kj17 a1 x8_1 (wrap64 (x9_1 + 1)) a0_0 a0_1 l0_2 a2_0 a2_1 a2_2 a2_3 a0_0 a0_1 y207) = some (r1, r2, r3) := by first | (rw [hy207]; with_reducible exact H) | (have H2_ := (Option.bind_some _ _).symm.trans H; rw [hy207]; with_reducible exact H2_) | (have H2_ := (Option.bind_some _ _).symm.trans H; with_reducible exact H2_) | with_reducible exact H | (rw [hy207]; exact H) | exact H
           have Ny207 := Aside0.mk hy207
           clear hy207
           have H' := Aside0.mk H
           clear H; have hnb70 := NB189_190.out; have hnc70 := NB190_189.out; have hnb71 := NB189_191.out; have hnc71 := NB191_189.out; have hnb72 := NB189_192.out; have hnc72 := NB192_189.out
           have hcz73_0 : wc.cell? ⟨gb189, 0, none⟩ = some (.int .i64 a0_0) := (blk_cell BK189.out 0).trans rfl
           have hcz73_1 : wc.cell? ⟨gb189, 1, none⟩ = some (.int .i64 a0_1) := (blk_cell BK189.out 1).trans rfl
           have hcz73_2 : wc.cell? ⟨gb189, 2, none⟩ = some (.slice A0_2 l0_2.length c0_2) := (blk_cell BK189.out 2).trans rfl
           have hfz73_0 := blk_frozen BK189.out 0
           have hfz73_1 := blk_frozen BK189.out 1
           have hfz73_2 := blk_frozen BK189.out 2
           have p205 : 0 ≤ (x9_1 : Int) := of_decide_eq_true nQ
           have q205 : x9_1 < (l0_2.length : Int) := of_decide_eq_true nQ
           obtain ⟨ad205, e205, hx205_0, hx205_1, hx205_2, hx205_3⟩ := at_T66 HR0_2.out x9_1 p205 q205
           cases e205
           replace hx205_0 := (HB.out.cell (World.block_lt_of_cell? w _ hx205_0)).trans hx205_0
           replace hx205_1 := (HB.out.cell (World.block_lt_of_cell? w _ hx205_1)).trans hx205_1
           replace hx205_2 := (HB.out.cell (World.block_lt_of_cell? w _ hx205_2)).trans hx205_2
           replace hx205_3 := (HB.out.cell (World.block_lt_of_cell? w _ hx205_3)).trans hx205_3
           replace p205 := eq_true p205; replace q205 := eq_true q205
           try go_wp2
           have n0_ := Aside0.mk (Kd.R_drew HO_193002.out)
           have n1_ := Aside0.mk (blk_drew BK189.out)
           have n2_ := Aside0.mk (blk_drew BK190.out)
           have n3_ := Aside0.mk (blk_drew BK191.out)
           have n4_ := Aside0.mk (blk_drew BK192.out)
           have n5_ := Aside0.mk (below_drew1 HB.out)
           clear HO_193002; clear BK189; clear BK190; clear BK191; clear BK192; clear HB; have HO_193002 := n0_; have BK189 := n1_; have BK190 := n2_; have BK191 := n3_; have BK192 := n4_; have HB := n5_; clear n0_ n1_ n2_ n3_ n4_ n5_
           have p206 : 0 ≤ (x9_1 : Int) := of_decide_eq_true nQ
           have q206 : x9_1 < (l0_2.length : Int) := of_decide_eq_true nQ
           obtain ⟨ad206, e206, hx206_0, hx206_1, hx206_2, hx206_3⟩ := at_T66 HR0_2.out x9_1 p206 q206
           have hw206_3 := hx206_3; have hw206_2 := hx206_2; have hw206_1 := hx206_1; have hw206_0 := hx206_0
           obtain rfl : ad205 = ad206 := (by injection e206)
           replace hx206_0 := (HB.out.cell (World.block_lt_of_cell? w _ hx206_0)).trans hx206_0
           replace hx206_1 := (HB.out.cell (World.block_lt_of_cell? w _ hx206_1)).trans hx206_1
           replace hx206_2 := (HB.out.cell (World.block_lt_of_cell? w _ hx206_2)).trans hx206_2
           replace hx206_3 := (HB.out.cell (World.block_lt_of_cell? w _ hx206_3)).trans hx206_3
           replace p206 := eq_true p206; replace q206 := eq_true q206
           refine start_ (n := 11) (S := fun w' => w'.cell? ⟨gb192, 0, none⟩ = some (.int .i64 a0_0) ∧ w'.cell? ⟨gb192, 1, none⟩ = some (.int .i64 a0_1) ∧ w'.cell? ⟨gb192, 2, none⟩ = some (u193002) ∧ w'.cell? ⟨gb189, 0, none⟩ = some (.int .i64 a0_0) ∧ w'.cell? ⟨gb189, 1, none⟩ = some (.int .i64 a0_1) ∧ w'.cell? ⟨gb189, 2, none⟩ = some (.slice (some ad205) l0_2.length c0_2) ∧ w'.cell? (ad205.add ((x9_1).toNat * 4)) = some (.int .i64 ((rd_T66 l0_2 x9_1).f0)) ∧ w'.cell? ⟨(ad205.add ((x9_1).toNat * 4)).block, (ad205.add ((x9_1).toNat * 4)).off + 1, none⟩ = some (.int .i64 ((rd_T66 l0_2 x9_1).f1)) ∧ w'.cell? ⟨(ad205.add ((x9_1).toNat * 4)).block, (ad205.add ((x9_1).toNat * 4)).off + 2, none⟩ = some (.int .i64 ((rd_T66 l0_2 x9_1).f2)) ∧ w'.cell? ⟨(ad205.add ((x9_1).toNat * 4)).block, (ad205.add ((x9_1).toNat * 4)).off + 3, none⟩ = some (.int .i64 ((rd_T66 l0_2 x9_1).f3))) (ds := [10]) #[F,F,F,F,F,F,F,F,F,F,F] (by kernel_rfl) rfl rfl ⟨(blk_cell BK192.out 0).trans rfl, (blk_cell BK192.out 1).trans rfl, (blk_cell BK192.out 2).trans rfl, (blk_cell BK189.out 0).trans rfl, (blk_cell BK189.out 1).trans rfl, (blk_cell BK189.out 2).trans rfl, (nC HB.out hw206_0 :), (nC HB.out hw206_1 :), (nC HB.out hw206_2 :), (nC HB.out hw206_3 :)⟩ (fun hHeld => ?_); refine with_tabW spec_l14Held.tab10 spec_l14Held.bits10 (fun HT_ HW_ => ?_)
           generalize wc.drew = w74 at HO_193002 BK189 BK190 BK191 BK192 HB hx206_0 hx206_1 hx206_2 hx206_3 hHeld ⊢
           refine pU 0 (some 52) #[T,F,F,F,F,F,F,F,F,F,F] rfl rfl HT_.out ?_
           refine pU 2 (some 54) #[T,F,T,F,F,F,F,F,F,F,F] rfl rfl HT_.out ?_
           refine pU 4 (some 56) #[T,F,T,F,T,F,F,F,F,F,F] rfl rfl HT_.out ?_
           refine tU10 1 (some 53) #[T,T,T,F,T,F,F,F,F,F,F] rfl rfl HT_.out HW_.out hHeld ?_
           refine tU10 3 (some 55) #[T,T,T,T,T,F,F,F,F,F,F] rfl rfl HT_.out HW_.out hHeld ?_
           refine pU 5 (some 57) #[T,T,T,T,T,T,F,F,F,F,F] rfl rfl HT_.out ?_
           refine tU10 6 (some 58) #[T,T,T,T,T,T,T,F,F,F,F] rfl rfl HT_.out HW_.out hHeld ?_
           refine one_ (i := 7) (N := some 59) #[T,T,T,T,T,T,T,T,F,F,F] rfl rfl (one_of HT_.out (by kernel_rfl)) (by decide) (fun K hK => ?_)
           refine value_ (w1 := ?_) (v := ?_) (by rfl) rfl ?_ ?_
           rotate_left 2
           · go_simp
             constructor
             · rfl
             · rfl
           refine hK.out _ _ ⟨(blk_cell (blk_alloc BK192.out _) 0).trans rfl, (blk_cell (blk_alloc BK192.out _) 1).trans rfl, (blk_cell (blk_alloc BK192.out _) 2).trans rfl, (blk_cell (blk_alloc BK189.out _) 0).trans rfl, (blk_cell (blk_alloc BK189.out _) 1).trans rfl, (blk_cell (blk_alloc BK189.out _) 2).trans rfl, (World.cell?_alloc_lt _ _ _ (World.block_lt_of_cell? _ _ ((nC HB.out hw206_0 :)))).trans ((nC HB.out hw206_0 :)), (World.cell?_alloc_lt _ _ _ (World.block_lt_of_cell? _ _ ((nC HB.out hw206_1 :)))).trans ((nC HB.out hw206_1 :)), (World.cell?_alloc_lt _ _ _ (World.block_lt_of_cell? _ _ ((nC HB.out hw206_2 :)))).trans ((nC HB.out hw206_2 :)), (World.cell?_alloc_lt _ _ _ (World.block_lt_of_cell? _ _ ((nC HB.out hw206_3 :)))).trans ((nC HB.out hw206_3 :))⟩ (fun hHeld => ?_)
           clear hK K
           refine norm_ (a' := ?_) ?_ ?_
           rotate_left
           · show Act.put _ (some 59) _ = _
             simp only [Act.put, List.setIfInBounds_toArray, List.set_cons_zero, List.set_cons_succ, i64_w, i32_w]
             rfl
           refine one_ (i := 8) (N := some 60) #[T,T,T,T,T,T,T,T,T,F,F] rfl rfl (one_of HT_.out (by kernel_rfl)) (by decide) (fun K hK => ?_)
           refine Kd.R_append_step k66 (w0 := w) w.heap.size (by rfl) (.tmp 53) (.tmp 59) 27 66 (.agg #[(.int .i64 0), (.int .i64 0), (.int .i64 0), (.int .i64 0)]) 32 rfl Try.underlying27 info66 rfl (by decide) (by omega) u193002 x193002_1 (⟨(rd_T66 l0_2 x9_1).f0, (rd_T66 l0_2 x9_1).f1, (rd_T66 l0_2 x9_1).f2, (rd_T66 l0_2 x9_1).f3⟩ : S66) [.int .i64 ((rd_T66 l0_2 x9_1).f0), .int .i64 ((rd_T66 l0_2 x9_1).f1), .int .i64 ((rd_T66 l0_2 x9_1).f2), .int .i64 ((rd_T66 l0_2 x9_1).f3)] (fun k_ => k_ ≠ gb190) (fun _ => False) rfl rfl ?aP (fun _ hk => hk.elim) ?aF ?aO ?aB ?aS ?aL ?_
           (case aP => exact k66_mkM _ _ _ (⟨(rd_T66 l0_2 x9_1).f0, (rd_T66 l0_2 x9_1).f1, (rd_T66 l0_2 x9_1).f2, (rd_T66 l0_2 x9_1).f3⟩ : S66))
           (case aB => exact (by repeat (first | (with_reducible first | exact HB.out | apply below_alloc | apply pw_below_drewN | apply below_drew1 | refine below_set ?_ GE189.out | refine below_set ?_ GE190.out | refine below_set ?_ GE191.out | refine below_set ?_ GE192.out) | exact HB.out)))
           (case aF => exact (fun k_ hk => Kd.freshB (g := gb190) (o := .cells #[.int .i64 a2_0, .int .i64 a2_1, .int .i64 a2_2, .int .i64 a2_3] 66 (0, 0)) (nB BK190.out) k_ hk))
           (case aO => exact (nR HO_193002.out))
           (case aS => exact (below_size (by repeat (first | (with_reducible first | exact HB.out | apply below_alloc | apply pw_below_drewN | apply below_drew1 | refine below_set ?_ GE189.out | refine below_set ?_ GE190.out | refine below_set ?_ GE191.out | refine below_set ?_ GE192.out) | exact HB.out))))
           (case aL => have := LMc69.out; omega)
           intro v208 w75 ho hb hg hat
           rw [← Ny207.out] at ho
           have n0_ := Aside0.mk (blk_grown (g := gb189) (o := .cells #[.int .i64 a0_0, .int .i64 a0_1, .slice (some ad205) l0_2.length c0_2] 29 (0, 0)) (nB BK189.out) hg (Kd.R_ne HO_193002.out BK189.out (by decide)))
           have n1_ := Aside0.mk (blk_grown (g := gb190) (o := .cells #[.int .i64 a2_0, .int .i64 a2_1, .int .i64 a2_2, .int .i64 a2_3] 66 (0, 0)) (nB BK190.out) hg (Kd.R_away HO_193002.out (fun _ hk => hk)))
           have n2_ := Aside0.mk (blk_grown (g := gb191) (o := .cells #[.int .i64 0, .int .i64 0, .slice none 0 0] 29 (0, 0)) (nB BK191.out) hg (Kd.R_ne HO_193002.out BK191.out (by decide)))
           have n3_ := Aside0.mk (blk_grown (g := gb192) (o := .cells #[.int .i64 a0_0, .int .i64 a0_1, u193002] 29 (0, 0)) (nB BK192.out) hg (Kd.R_ne HO_193002.out BK192.out (by decide)))
           have n4_ := Aside0.mk (hb)
           have n5_ := Aside0.mk (ho)
           clear BK189; clear BK190; clear BK191; clear BK192; clear HB; clear HO_193002; have BK189 := n0_; have BK190 := n1_; have BK191 := n2_; have BK192 := n3_; have HB := n4_; have HO209 := n5_; clear n0_ n1_ n2_ n3_ n4_ n5_; clear ho hb hg hat
           obtain ⟨Ao76, co76, eo76⟩ := Kd.R_slice HO209.out
           (first | subst eo76 | (injection eo76 with f1_ f2_ f3_; have f4_ := f1_.symm; have f5_ := f3_.symm; clear f1_ f2_ f3_; subst f4_; subst f5_))
           refine hK.out _ _ ⟨(blk_cell BK192.out 0).trans rfl, (blk_cell BK192.out 1).trans rfl, (blk_cell BK192.out 2).trans rfl, (blk_cell BK189.out 0).trans rfl, (blk_cell BK189.out 1).trans rfl, (blk_cell BK189.out 2).trans rfl, (nC HB.out hw206_0 :), (nC HB.out hw206_1 :), (nC HB.out hw206_2 :), (nC HB.out hw206_3 :)⟩ (fun hHeld => ?_)
           clear hK K
           refine norm_ (a' := ?_) ?_ ?_
           rotate_left
           · show Act.put _ (some 60) _ = _
             simp only [Act.put, List.setIfInBounds_toArray, List.set_cons_zero, List.set_cons_succ, i64_w, i32_w]
             rfl
           refine pU 9 (some 61) #[T,T,T,T,T,T,T,T,T,T,F] rfl rfl HT_.out ?_
           refine last_ (i := 10) (N := none) #[T,T,T,T,T,T,T,T,T,T,T] rfl rfl (one_of HT_.out (by kernel_rfl)) (by decide) (fun K hK => ?_)
           have hs77 : w75.cell? ⟨gb192, 2, none⟩ = some (u193002) := (blk_cell BK192.out 2).trans rfl
           have hfs77 := blk_frozen BK192.out 2
           have hns77_0 := NB189_192.out; have hns77_1 := NB190_192.out; have hns77_2 := NB191_192.out; have hms77_0 := NB192_189.out; have hms77_1 := NB192_190.out; have hms77_2 := NB192_191.out
           refine skip_ (w1 := ?_) (by rfl) rfl ?_ ?_
           rotate_left
           · go_simp; rfl
           refine hK.out _ _ ?_
           clear hK K
           refine done_ (done_of HT_.out (by kernel_rfl)) ?_
           try go_wp2
           go_roundg kj17
           case measure => have := HK1.out; have := HJ17.out; omega
           case rel => exact ⟨(x8_1), (wrap64 (x9_1 + 1)), (y207), (.slice Ao76 y207.length co76), nS, nS, H', ⟨by have := HK1.out; have := HJ17.out; omega⟩, ⟨by (with_reducible repeat (first | apply Kd.R_alloc | apply Kd.R_drewN | apply Kd.R_drew)); exact Kd.R_mono (Kd.R_far (p := ⟨gb192, 2, none⟩) (Kd.R_types HO209.out BK192.out (by decide)) (fun _ hk => hk.2) (.slice Ao76 y207.length co76)) (fun _ hk => hk.1)⟩, ⟨by (with_reducible repeat (first | refine blk_drewN ?_ _ | refine blk_drew ?_ | refine blk_alloc ?_ _)); refine blk_far ?_ NB189_192.out _; (with_reducible repeat (first | refine blk_drewN ?_ _ | refine blk_drew ?_ | refine blk_alloc ?_ _)); exact BK189.out⟩, ⟨by (with_reducible repeat (first | refine blk_drewN ?_ _ | refine blk_drew ?_ | refine blk_alloc ?_ _)); refine blk_far ?_ NB190_192.out _; (with_reducible repeat (first | refine blk_drewN ?_ _ | refine blk_drew ?_ | refine blk_alloc ?_ _)); exact BK190.out⟩, ⟨by (with_reducible repeat (first | refine blk_drewN ?_ _ | refine blk_drew ?_ | refine blk_alloc ?_ _)); refine blk_far ?_ NB191_192.out _; (with_reducible repeat (first | refine blk_drewN ?_ _ | refine blk_drew ?_ | refine blk_alloc ?_ _)); exact BK191.out⟩, ⟨by (with_reducible repeat (first | refine blk_drewN ?_ _ | refine blk_drew ?_ | refine blk_alloc ?_ _)); refine blk_put (cs := #[.int .i64 a0_0, .int .i64 a0_1, u193002]) ?_ 2 _ rfl; (with_reducible repeat (first | refine blk_drewN ?_ _ | refine blk_drew ?_ | refine blk_alloc ?_ _)); exact BK192.out⟩, ⟨by repeat (first | (with_reducible first | exact HB.out | apply below_alloc | apply pw_below_drewN | apply below_drew1 | refine below_set ?_ GE189.out | refine below_set ?_ GE190.out | refine below_set ?_ GE191.out | refine below_set ?_ GE192.out) | exact HB.out)⟩⟩
   · rw [if_neg c17] at H
     have c17b0 : decide (x9_1 < (l0_2.length : Int)) = false := decide_eq_false c17
     clear c17
     by_cases c78 : x8_1 = true
     · subst c78
       have H1 : (some (a0_0, a0_1, x193002_1)) = some (r1, r2, r3) := by rw [if_pos rfl] at H; exact H
       clear H; have H := H1; clear H1
       simp only [Option.some.injEq, Prod.mk.injEq] at H
       obtain ⟨rfl, rfl, rfl⟩ := H
       have hnb79 := NB189_190.out; have hnc79 := NB190_189.out; have hnb80 := NB189_191.out; have hnc80 := NB191_189.out; have hnb81 := NB189_192.out; have hnc81 := NB192_189.out
       have hcz82_0 : wr.cell? ⟨gb189, 0, none⟩ = some (.int .i64 a0_0) := (blk_cell BK189.out 0).trans rfl
       have hcz82_1 : wr.cell? ⟨gb189, 1, none⟩ = some (.int .i64 a0_1) := (blk_cell BK189.out 1).trans rfl
       have hcz82_2 : wr.cell? ⟨gb189, 2, none⟩ = some (.slice A0_2 l0_2.length c0_2) := (blk_cell BK189.out 2).trans rfl
       have hfz82_0 := blk_frozen BK189.out 0
       have hfz82_1 := blk_frozen BK189.out 1
       have hfz82_2 := blk_frozen BK189.out 2
       have hnb83 := NB192_190.out; have hnc83 := NB190_192.out; have hnb84 := NB192_191.out; have hnc84 := NB191_192.out
       have hcz85_0 : wr.cell? ⟨gb192, 0, none⟩ = some (.int .i64 a0_0) := (blk_cell BK192.out 0).trans rfl
       have hcz85_1 : wr.cell? ⟨gb192, 1, none⟩ = some (.int .i64 a0_1) := (blk_cell BK192.out 1).trans rfl
       have hcz85_2 : wr.cell? ⟨gb192, 2, none⟩ = some (u193002) := (blk_cell BK192.out 2).trans rfl
       have hfz85_0 := blk_frozen BK192.out 0
       have hfz85_1 := blk_frozen BK192.out 1
       have hfz85_2 := blk_frozen BK192.out 2
       have hnb86 := NB191_190.out; have hnc86 := NB190_191.out
       have hcz87_0 : wr.cell? ⟨gb191, 0, none⟩ = some (.int .i64 0) := (blk_cell BK191.out 0).trans rfl
       have hcz87_1 : wr.cell? ⟨gb191, 1, none⟩ = some (.int .i64 0) := (blk_cell BK191.out 1).trans rfl
       have hcz87_2 : wr.cell? ⟨gb191, 2, none⟩ = some (.slice none 0 0) := (blk_cell BK191.out 2).trans rfl
       have hfz87_0 := blk_frozen BK191.out 0
       have hfz87_1 := blk_frozen BK191.out 1
       have hfz87_2 := blk_frozen BK191.out 2
       obtain ⟨Ao88, co88, eo88⟩ := Kd.R_slice HO_193002.out
       subst eo88
       go_wp2
       refine bodyPost_ret (results_cell_row rfl _ _ gb191 29 #[.int .i64 a0_0, .int .i64 a0_1, .slice Ao88 x193002_1.length co88] (0, 0) _ rfl (by (with_reducible repeat (first | refine blk_drewN ?_ _ | refine blk_drew ?_ | refine blk_alloc ?_ _)); refine blk_put (cs := #[.int .i64 a0_0, .int .i64 a0_1, .slice none 0 0]) ?_ 2 _ rfl; (with_reducible repeat (first | refine blk_drewN ?_ _ | refine blk_drew ?_ | refine blk_alloc ?_ _)); refine blk_put (cs := #[.int .i64 a0_0, .int .i64 0, .slice none 0 0]) ?_ 1 _ rfl; (with_reducible repeat (first | refine blk_drewN ?_ _ | refine blk_drew ?_ | refine blk_alloc ?_ _)); refine blk_put (cs := #[.int .i64 0, .int .i64 0, .slice none 0 0]) ?_ 0 _ rfl; (with_reducible repeat (first | refine blk_drewN ?_ _ | refine blk_drew ?_ | refine blk_alloc ?_ _)); exact BK191.out) Try.underlying29 rfl (by kernel_rfl)) rfl ?_
       exact ⟨_, by first | rfl | (simp [errW_none, errW_some] <;> rfl) | (simp [*, errW_none, errW_some] <;> first | rfl | (simp [wrap64]; done)), by (with_reducible repeat (first | apply Kd.R_alloc | apply Kd.R_drewN | apply Kd.R_drew)); exact Kd.R_mono (Kd.R_far (p := ⟨gb191, 2, none⟩) (Kd.R_far (p := ⟨gb191, 1, none⟩) (Kd.R_far (p := ⟨gb191, 0, none⟩) (Kd.R_types HO_193002.out BK191.out (by decide)) (fun _ hk => hk.2) (.int .i64 a0_0)) (fun _ hk => hk.2) (.int .i64 a0_1)) (fun _ hk => hk.2) (.slice Ao88 x193002_1.length co88)) (fun _ hk => trivial), by repeat (first | (with_reducible first | exact HB.out | apply below_alloc | apply pw_below_drewN | apply below_drew1 | refine below_set ?_ GE189.out | refine below_set ?_ GE190.out | refine below_set ?_ GE191.out | refine below_set ?_ GE192.out) | exact HB.out)⟩
     · replace c78 := Bool.eq_false_iff.mpr c78
       subst c78
       have H1 : (if x193002_1.length < 4398046511104 then (some (a0_0, a0_1, (x193002_1 ++ [(⟨a2_0, a2_1, a2_2, a2_3⟩ : S66)]))) else (none)) = some (r1, r2, r3) := by rw [if_neg (show ¬ (false = true) by decide)] at H; exact H
       clear H; have H := H1; clear H1
       by_cases c89 : x193002_1.length < 4398046511104
       rotate_left
       · (rw [if_neg c89] at H; exact absurd H (by simp))
       rw [if_pos c89] at H
       have LMc89 := Aside0.mk c89
       clear c89
       obtain ⟨y193, hy193⟩ : ∃ y_ : List (S66), y_ = (x193002_1 ++ [(⟨a2_0, a2_1, a2_2, a2_3⟩ : S66)]) := ⟨_, rfl⟩
       replace H : (some (a0_0, a0_1, y193)) = some (r1, r2, r3) := by first | (rw [hy193]; with_reducible exact H) | (have H2_ := (Option.bind_some _ _).symm.trans H; rw [hy193]; with_reducible exact H2_) | (have H2_ := (Option.bind_some _ _).symm.trans H; with_reducible exact H2_) | with_reducible exact H | (rw [hy193]; exact H) | exact H
       have Ny193 := Aside0.mk hy193
       clear hy193
       simp only [Option.some.injEq, Prod.mk.injEq] at H
       obtain ⟨rfl, rfl, rfl⟩ := H
       have hnb90 := NB189_190.out; have hnc90 := NB190_189.out; have hnb91 := NB189_191.out; have hnc91 := NB191_189.out; have hnb92 := NB189_192.out; have hnc92 := NB192_189.out
       have hcz93_0 : wr.cell? ⟨gb189, 0, none⟩ = some (.int .i64 a0_0) := (blk_cell BK189.out 0).trans rfl
       have hcz93_1 : wr.cell? ⟨gb189, 1, none⟩ = some (.int .i64 a0_1) := (blk_cell BK189.out 1).trans rfl
       have hcz93_2 : wr.cell? ⟨gb189, 2, none⟩ = some (.slice A0_2 l0_2.length c0_2) := (blk_cell BK189.out 2).trans rfl
       have hfz93_0 := blk_frozen BK189.out 0
       have hfz93_1 := blk_frozen BK189.out 1
       have hfz93_2 := blk_frozen BK189.out 2
       have hnb94 := NB192_190.out; have hnc94 := NB190_192.out; have hnb95 := NB192_191.out; have hnc95 := NB191_192.out
       have hcz96_0 : wr.cell? ⟨gb192, 0, none⟩ = some (.int .i64 a0_0) := (blk_cell BK192.out 0).trans rfl
       have hcz96_1 : wr.cell? ⟨gb192, 1, none⟩ = some (.int .i64 a0_1) := (blk_cell BK192.out 1).trans rfl
       have hcz96_2 : wr.cell? ⟨gb192, 2, none⟩ = some (u193002) := (blk_cell BK192.out 2).trans rfl
       have hfz96_0 := blk_frozen BK192.out 0
       have hfz96_1 := blk_frozen BK192.out 1
       have hfz96_2 := blk_frozen BK192.out 2
       have hnb97 := NB190_191.out; have hnc97 := NB191_190.out
       have hcz98_0 : wr.cell? ⟨gb190, 0, none⟩ = some (.int .i64 a2_0) := (blk_cell BK190.out 0).trans rfl
       have hcz98_1 : wr.cell? ⟨gb190, 1, none⟩ = some (.int .i64 a2_1) := (blk_cell BK190.out 1).trans rfl
       have hcz98_2 : wr.cell? ⟨gb190, 2, none⟩ = some (.int .i64 a2_2) := (blk_cell BK190.out 2).trans rfl
       have hcz98_3 : wr.cell? ⟨gb190, 3, none⟩ = some (.int .i64 a2_3) := (blk_cell BK190.out 3).trans rfl
       have hfz98_0 := blk_frozen BK190.out 0
       have hfz98_1 := blk_frozen BK190.out 1
       have hfz98_2 := blk_frozen BK190.out 2
       have hfz98_3 := blk_frozen BK190.out 3
       go_wp2_with (first | ((with_reducible refine gate_builtin (b := .append) (xs := #[.tmp 65, .tmp 67]) rfl ?_); at_builtin; refine Kd.R_append k66 (w0 := w) w.heap.size rfl (.tmp 65) (.tmp 67) 27 66 (.agg #[(.int .i64 0), (.int .i64 0), (.int .i64 0), (.int .i64 0)]) 32 rfl Try.underlying27 info66 rfl (by decide) (by omega) u193002 x193002_1 (⟨a2_0, a2_1, a2_2, a2_3⟩ : S66) [.int .i64 a2_0, .int .i64 a2_1, .int .i64 a2_2, .int .i64 a2_3] (fun k_ => k_ ≠ gb190) (fun _ => False) rfl rfl ?aP (fun _ hk => hk.elim) ?aF ?aO ?aB ?aS ?aL ?_; (case aP => exact k66_mkM _ _ _ (⟨a2_0, a2_1, a2_2, a2_3⟩ : S66)); (case aB => exact (by repeat (first | (with_reducible first | exact HB.out | apply below_alloc | apply pw_below_drewN | apply below_drew1 | refine below_set ?_ GE189.out | refine below_set ?_ GE190.out | refine below_set ?_ GE191.out | refine below_set ?_ GE192.out) | exact HB.out))); (case aF => exact (fun k_ hk => Kd.freshB (g := gb190) (o := .cells #[.int .i64 a2_0, .int .i64 a2_1, .int .i64 a2_2, .int .i64 a2_3] 66 (0, 0)) (nB BK190.out) k_ hk)); (case aO => exact (nR HO_193002.out)); (case aS => exact (below_size (by repeat (first | (with_reducible first | exact HB.out | apply below_alloc | apply pw_below_drewN | apply below_drew1 | refine below_set ?_ GE189.out | refine below_set ?_ GE190.out | refine below_set ?_ GE191.out | refine below_set ?_ GE192.out) | exact HB.out)))); (case aL => have := LMc89.out; omega); intro v194 w99 ho hb hg hat; rw [← Ny193.out] at ho; have n0_ := Aside0.mk (blk_grown (g := gb189) (o := .cells #[.int .i64 a0_0, .int .i64 a0_1, .slice A0_2 l0_2.length c0_2] 29 (0, 0)) (nB BK189.out) hg (Kd.R_ne HO_193002.out BK189.out (by decide))); have n1_ := Aside0.mk (blk_grown (g := gb190) (o := .cells #[.int .i64 a2_0, .int .i64 a2_1, .int .i64 a2_2, .int .i64 a2_3] 66 (0, 0)) (nB BK190.out) hg (Kd.R_away HO_193002.out (fun _ hk => hk))); have n2_ := Aside0.mk (blk_grown (g := gb191) (o := .cells #[.int .i64 0, .int .i64 0, .slice none 0 0] 29 (0, 0)) (nB BK191.out) hg (Kd.R_ne HO_193002.out BK191.out (by decide))); have n3_ := Aside0.mk (blk_grown (g := gb192) (o := .cells #[.int .i64 a0_0, .int .i64 a0_1, u193002] 29 (0, 0)) (nB BK192.out) hg (Kd.R_ne HO_193002.out BK192.out (by decide))); have n4_ := Aside0.mk (hb); have n5_ := Aside0.mk (ho); clear BK189; clear BK190; clear BK191; clear BK192; clear HB; clear HO_193002; have BK189 := n0_; have BK190 := n1_; have BK191 := n2_; have BK192 := n3_; have HB := n4_; have HO195 := n5_; clear n0_ n1_ n2_ n3_ n4_ n5_; clear ho hb hg hat; obtain ⟨Ao100, co100, eo100⟩ := Kd.R_slice HO195.out; subst eo100; have hcz101_0 : w99.cell? ⟨gb192, 0, none⟩ = some (.int .i64 a0_0) := (blk_cell BK192.out 0).trans rfl; have hcz101_1 : w99.cell? ⟨gb192, 1, none⟩ = some (.int .i64 a0_1) := (blk_cell BK192.out 1).trans rfl; have hcz101_2 : w99.cell? ⟨gb192, 2, none⟩ = some (u193002) := (blk_cell BK192.out 2).trans rfl; have hfz101_0 := blk_frozen BK192.out 0; have hfz101_1 := blk_frozen BK192.out 1; have hfz101_2 := blk_frozen BK192.out 2; have hcz102_0 : w99.cell? ⟨gb191, 0, none⟩ = some (.int .i64 0) := (blk_cell BK191.out 0).trans rfl; have hcz102_1 : w99.cell? ⟨gb191, 1, none⟩ = some (.int .i64 0) := (blk_cell BK191.out 1).trans rfl; have hcz102_2 : w99.cell? ⟨gb191, 2, none⟩ = some (.slice none 0 0) := (blk_cell BK191.out 2).trans rfl; have hfz102_0 := blk_frozen BK191.out 0; have hfz102_1 := blk_frozen BK191.out 1; have hfz102_2 := blk_frozen BK191.out 2))
       refine bodyPost_ret (results_cell_row rfl _ _ gb191 29 #[.int .i64 a0_0, .int .i64 a0_1, .slice Ao100 y193.length co100] (0, 0) _ rfl (by (with_reducible repeat (first | refine blk_drewN ?_ _ | refine blk_drew ?_ | refine blk_alloc ?_ _)); refine blk_put (cs := #[.int .i64 a0_0, .int .i64 a0_1, .slice none 0 0]) ?_ 2 _ rfl; (with_reducible repeat (first | refine blk_drewN ?_ _ | refine blk_drew ?_ | refine blk_alloc ?_ _)); refine blk_put (cs := #[.int .i64 a0_0, .int .i64 0, .slice none 0 0]) ?_ 1 _ rfl; (with_reducible repeat (first | refine blk_drewN ?_ _ | refine blk_drew ?_ | refine blk_alloc ?_ _)); refine blk_put (cs := #[.int .i64 0, .int .i64 0, .slice none 0 0]) ?_ 0 _ rfl; (with_reducible repeat (first | refine blk_drewN ?_ _ | refine blk_drew ?_ | refine blk_alloc ?_ _)); refine blk_far ?_ NB191_192.out _; (with_reducible repeat (first | refine blk_drewN ?_ _ | refine blk_drew ?_ | refine blk_alloc ?_ _)); exact BK191.out) Try.underlying29 rfl (by kernel_rfl)) rfl ?_
       exact ⟨_, by first | rfl | (simp [errW_none, errW_some] <;> rfl) | (simp [*, errW_none, errW_some] <;> first | rfl | (simp [wrap64]; done)), by (with_reducible repeat (first | apply Kd.R_alloc | apply Kd.R_drewN | apply Kd.R_drew)); exact Kd.R_mono (Kd.R_far (p := ⟨gb191, 2, none⟩) (Kd.R_far (p := ⟨gb191, 1, none⟩) (Kd.R_far (p := ⟨gb191, 0, none⟩) (Kd.R_far (p := ⟨gb192, 2, none⟩) (Kd.R_types (Kd.R_types HO195.out BK192.out (by decide)) BK191.out (by decide)) (fun _ hk => hk.1.2) (.slice Ao100 y193.length co100)) (fun _ hk => hk.2) (.int .i64 a0_0)) (fun _ hk => hk.2) (.int .i64 a0_1)) (fun _ hk => hk.2) (.slice Ao100 y193.length co100)) (fun _ hk => trivial), by repeat (first | (with_reducible first | exact HB.out | apply below_alloc | apply pw_below_drewN | apply below_drew1 | refine below_set ?_ GE189.out | refine below_set ?_ GE190.out | refine below_set ?_ GE191.out | refine below_set ?_ GE192.out) | exact HB.out)⟩
end Go.Proofs.Ytklikbjlfaednaa.P

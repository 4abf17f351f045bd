/- Contracts of the functions of the program, each one with its plain Lean function; written by a program of the session out of the translation. -/
import Derived.Test.YtklikbjlfaednaaNb
import Derived.Test.YtklikbjlfaednaaPx0
import Derived.Test.YtklikbjlfaednaaPx12
import Derived.Test.YtklikbjlfaednaaPx20
import Derived.Test.YtklikbjlfaednaaPx21
import Derived.Test.YtklikbjlfaednaaPx23
import Derived.Test.YtklikbjlfaednaaPx24
namespace Go.Proofs.Ytklikbjlfaednaa.P
open Go.RowKit Go.Proofs.YtklikbjlfaednaaW.PrintWords Go.Proofs.YtklikbjlfaednaaW.PrintLast Go.Proofs.YtklikbjlfaednaaW.PrintMore
attribute [local go_sem] max2_int min2_int max_two min_two max_three min_three max_four min_four   -- for this text's walks alone
set_option linter.unusedVariables false
set_option linter.unusedSimpArgs false
/-! ### spec_l14DrawRight: function 64 -/
theorem spec_l14DrawRight.mono : ∀ a0 a1 a2 a3 k, LeO (spec_l14DrawRight.f k a0 a1 a2 a3) (spec_l14DrawRight.f (k + 1) a0 a1 a2 a3) := by
 intro a0 a1 a2 a3 k
 unfold spec_l14DrawRight.f
 repeat' first
  | (with_reducible exact spec_PlaySales.mono _ _ _ _ _)
  | (with_reducible exact spec_l14DrawSales.mono _ _ _ _ _ _)
  | (with_reducible exact LeO.refl _)
  | (with_reducible exact LeO.none _)
  | (with_reducible refine LeO.ite ?_ ?_)
  | (with_reducible refine LeO.bind ?_ (fun _ => ?_))
  | exact spec_PlaySales.mono _ _ _ _ _
  | exact spec_l14DrawSales.mono _ _ _ _ _ _
  | exact LeO.none _
  | refine LeO.ite ?_ ?_
  | refine LeO.bind ?_ (fun _ => ?_)
def spec_l14DrawRight.T2 : Bool × List (List Nat × List Nat) := (true, [([], []), ([], []), ([], []), ([2], [2]), ([3], [3]), ([], []), ([5], [5]), ([1, 4, 6, 3], [1, 4, 6]), ([0, 7, 7], [0, 7]), ([8], [8]), ([9], [9]), ([9], [9]), ([], []), ([12, 10, 8, 0, 1, 2, 3, 4, 5, 6, 7, 8, 9, 10, 12], [10, 12]), ([11, 13, 0, 1, 2, 3, 4, 5, 6, 7, 8, 9, 10, 11, 12, 13], [11])])
def spec_l14DrawRight.B2 : List Nat := [0, 0, 0, 4, 12, 0, 32, 126, 255, 511, 1023, 1023, 0, 6143, 16383]
theorem spec_l14DrawRight.tab2 : rtab .any (opsOf Try.f64 2) = spec_l14DrawRight.T2 := by kernel_rfl
theorem spec_l14DrawRight.bits2 : waitsOk spec_l14DrawRight.T2.2 spec_l14DrawRight.B2 = true := by kernel_rfl
set_option maxHeartbeats 8000000 in
set_option maxRecDepth 100000 in
theorem spec_l14DrawRight.calls (k : Nat) (g : Nat) (s0_0 : List Int) (s0_1 : Int) (s0_2 : Int) (A1 : Option Addr) (c1 : Nat) (l1 : List Int) (r1 : Int) (r2 : Int) (r3 : List (S66)) (r4 : Int) (r5 : Int) (w0 w : World) (hI : IsS97 w0 w g s0_0 s0_1 s0_2) (hB : Below w0.heap.size w0 w) (hr1 : Kd.C (Kd.int .u8) w A1 l1.length l1) (hc1 : l1.length ≤ c1) (hf1 : ∀ ad, A1 = some ad → 0 < l1.length → ad.block ≠ g) (h : spec_l14DrawRight.f k s0_0 s0_1 s0_2 l1 = some (r1, r2, r3, r4, r5)) :
 Calls Try.prog 64 #[.pointer (some ⟨g, 0, none⟩), .slice A1 l1.length c1] w fun e w' => ∃ v2_ : Value, e = .returned (.agg #[.int .i64 r1, .int .i64 r2, v2_]) ∧ Kd.R k66 66 w' w.heap.size (fun _ => True) v2_ r3 ∧ IsS97 w0 w' g s0_0 r4 r5 ∧ Below w0.heap.size w0 w' ∧ KeepBut w w' g none := by
 have hu29 := Try.underlying29
 have HR1 := Aside0.mk hr1
 have HC1 := Aside0.mk hc1
 clear hr1 hc1
 have HI0 := Aside0.mk hI
 have HK := Aside0.mk (KeepBut.refl w g none)
 have HL := Aside0.mk hB.size
 clear hI
 have HW0 := Aside0.mk hB.size
 have HB := Aside0.mk hB
 clear hB
 have H : ((spec_l01Below.f s0_0 s0_1 s0_2 4).bind fun bt339 => ((spec_l01Below.f s0_0 bt339.2.1 bt339.2.2 6).bind fun bt342 => ((spec_l01Size.f l1 16).bind fun t346 => ((spec_l14DrawSales.f k s0_0 bt342.2.1 bt342.2.2 (wrap64 (2 + t346)) (wrap64 (1 + bt342.1))).bind fun bt347 => ((spec_PlaySales.f k (wrap64 (1 + bt339.1)) (wrap64 (1 + bt342.1)) ([] : List (S66)) bt347.1).bind fun bt352 => (some (bt352.1, bt352.2.1, bt352.2.2.1, bt347.2.1, bt347.2.2))))))) = some (r1, r2, r3, r4, r5) := h
 clear h
 replace H := Option.bind_eq_some_iff.mp H
 obtain ⟨⟨t339, t340, t341⟩, A30, H⟩ := H
 replace H : ((spec_l01Below.f s0_0 t340 t341 6).bind fun bt342 => ((spec_l01Size.f l1 16).bind fun t346 => ((spec_l14DrawSales.f k s0_0 bt342.2.1 bt342.2.2 (wrap64 (2 + t346)) (wrap64 (1 + bt342.1))).bind fun bt347 => ((spec_PlaySales.f k (wrap64 (1 + t339)) (wrap64 (1 + bt342.1)) ([] : List (S66)) bt347.1).bind fun bt352 => (some (bt352.1, bt352.2.1, bt352.2.2.1, bt347.2.1, bt347.2.2)))))) = some (r1, r2, r3, r4, r5) := H
 have A3 := Aside0.mk A30
 clear A30
 replace H := Option.bind_eq_some_iff.mp H
 obtain ⟨⟨t342, t343, t344⟩, A40, H⟩ := H
 replace H : ((spec_l01Size.f l1 16).bind fun t346 => ((spec_l14DrawSales.f k s0_0 t343 t344 (wrap64 (2 + t346)) (wrap64 (1 + t342))).bind fun bt347 => ((spec_PlaySales.f k (wrap64 (1 + t339)) (wrap64 (1 + t342)) ([] : List (S66)) bt347.1).bind fun bt352 => (some (bt352.1, bt352.2.1, bt352.2.2.1, bt347.2.1, bt347.2.2))))) = some (r1, r2, r3, r4, r5) := H
 have A4 := Aside0.mk A40
 clear A40
 replace H := Option.bind_eq_some_iff.mp H
 obtain ⟨t346, A50, H⟩ := H
 replace H : ((spec_l14DrawSales.f k s0_0 t343 t344 (wrap64 (2 + t346)) (wrap64 (1 + t342))).bind fun bt347 => ((spec_PlaySales.f k (wrap64 (1 + t339)) (wrap64 (1 + t342)) ([] : List (S66)) bt347.1).bind fun bt352 => (some (bt352.1, bt352.2.1, bt352.2.2.1, bt347.2.1, bt347.2.2)))) = some (r1, r2, r3, r4, r5) := H
 have A5 := Aside0.mk A50
 clear A50
 replace H := Option.bind_eq_some_iff.mp H
 obtain ⟨⟨t347, t350, t351⟩, A60, H⟩ := H
 replace H : ((spec_PlaySales.f k (wrap64 (1 + t339)) (wrap64 (1 + t342)) ([] : List (S66)) t347).bind fun bt352 => (some (bt352.1, bt352.2.1, bt352.2.2.1, t350, t351))) = some (r1, r2, r3, r4, r5) := H
 have A6 := Aside0.mk A60
 clear A60
 replace H := Option.bind_eq_some_iff.mp H
 obtain ⟨⟨t352, t353, t354, t357⟩, A70, H⟩ := H
 replace H : (some (t352, t353, t354, t350, t351)) = some (r1, r2, r3, r4, r5) := H
 have A7 := Aside0.mk A70
 clear A70
 simp only [Option.some.injEq, Prod.mk.injEq] at H
 obtain ⟨rfl, rfl, rfl, rfl, rfl⟩ := H
 go_enter Try.func64, Try.ntmps64
 try go_wp2_with (first | ((with_reducible refine gate_dst (N := 4) rfl ?_); refine box_event ?hg (N := 4) ?hd (cs := #[.int .i64 0, .int .i64 0, .slice none 0 0]) (t := 29) ?hr ?_; (case hd => rfl); (case hg => rfl); (case hr => first | (go_simp; done) | (go_simp; rfl)); intro gb338 hg w8 hbox hb; have n0_ := Aside0.mk (IsS97.below (by repeat (first | (with_reducible first | exact HI0.out | apply IsS97.alloc | apply IsS97.drewN | apply IsS97.drew | apply IsS97.set_1 | apply IsS97.set_2) | exact HI0.out)) hb); have n1_ := Aside0.mk (KeepBut.trans (by repeat (first | (with_reducible first | exact HK.out | apply KeepBut.set_ | apply keep_drewN | apply keep_drew | apply keep_alloc) | exact HK.out)) (KeepBut.of_below hb g none) (.inl rfl)); have n2_ := Aside0.mk (below_step (by repeat (first | (with_reducible first | exact HB.out | apply below_alloc | apply pw_below_drewN | apply below_drew1 | refine below_set ?_ (IsS97.ge HI0.out)) | exact HB.out)) hb); have n3_ := Aside0.mk (hbox); have n4_ := Aside0.mk ((by rw [hg]; exact (keep_size (w := w) (g := g) (row := none) (by repeat (first | (with_reducible first | exact HK.out | apply KeepBut.set_ | apply keep_drewN | apply keep_drew | apply keep_alloc) | exact HK.out))) : w.heap.size ≤ gb338)); have n5_ := Aside0.mk ((Nat.le_trans HW0.out (by rw [hg]; exact (keep_size (w := w) (g := g) (row := none) (by repeat (first | (with_reducible first | exact HK.out | apply KeepBut.set_ | apply keep_drewN | apply keep_drew | apply keep_alloc) | exact HK.out))) : w.heap.size ≤ gb338) : w0.heap.size ≤ gb338)); have n6_ := Aside0.mk ((by rw [hg]; exact Nat.ne_of_lt (IsS97.lt (show IsS97 w0 _ g s0_0 s0_1 s0_2 from by repeat (first | (with_reducible first | exact HI0.out | apply IsS97.alloc | apply IsS97.drewN | apply IsS97.drew | apply IsS97.set_1 | apply IsS97.set_2) | exact HI0.out))) : g ≠ gb338)); have n7_ := Aside0.mk ((by rw [hg]; exact Nat.ne_of_gt (IsS97.lt (show IsS97 w0 _ g s0_0 s0_1 s0_2 from by repeat (first | (with_reducible first | exact HI0.out | apply IsS97.alloc | apply IsS97.drewN | apply IsS97.drew | apply IsS97.set_1 | apply IsS97.set_2) | exact HI0.out))) : gb338 ≠ g)); clear HI0; clear HK; clear HB; have HI0 := n0_; have HK := n1_; have HB := n2_; have BK338 := n3_; have GW338 := n4_; have GE338 := n5_; have NB0_338 := n6_; have NB338_0 := n7_; clear n0_ n1_ n2_ n3_ n4_ n5_ n6_ n7_; clear hb hbox hg) | ((with_reducible refine gate_callee (f := 75) rfl ?_); refine goesL_ (some 9) rfl rfl Try.func75 (by kernel_rfl) rfl #[.pointer (some ⟨g, 0, none⟩), .int .i64 4] rfl (by (try simp only [List.map_toArray, List.map_cons, List.map_nil]); first | done | rfl | (simp only [List.length_drop, List.length_take]; rfl)) ?_; (with_reducible refine (spec_l01Below.calls g s0_0 s0_1 s0_2 4 t339 t340 t341 w0 _ ?side1 ?side2 A3.out).mono ?_); (case side1 => repeat (first | (with_reducible first | exact HI0.out | apply IsS97.alloc | apply IsS97.drewN | apply IsS97.drew | apply IsS97.set_1 | apply IsS97.set_2 | refine IsS97.far ?_ NB0_338.out _) | exact HI0.out)); (case side2 => repeat (first | (with_reducible first | exact HB.out | apply below_alloc | apply pw_below_drewN | apply below_drew1 | refine below_set ?_ (IsS97.ge HI0.out) | refine below_set ?_ GE338.out) | exact HB.out)); rintro e w9 ⟨rfl, hi, hb, hk⟩; refine ⟨_, rfl, ?_⟩; have n0_ := Aside0.mk (KeepBut.blk hk (g' := gb338) (o := .cells #[.int .i64 0, .int .i64 0, .slice none 0 0] 29 (0, 0)) (nB BK338.out) NB338_0.out (by simp)); have n1_ := Aside0.mk (KeepBut.trans (by repeat (first | (with_reducible first | exact HK.out | apply KeepBut.set_ | apply keep_drewN | apply keep_drew | apply keep_alloc | refine keep_far ?_ GW338.out _) | exact HK.out)) hk (.inl rfl)); have n2_ := Aside0.mk (hb); have n3_ := Aside0.mk (hi); clear BK338; clear HK; clear HB; clear HI0; have BK338 := n0_; have HK := n1_; have HB := n2_; have HI0 := n3_; clear n0_ n1_ n2_ n3_; (try clear hb); (try clear hb2); (try clear hk); (try clear hi)) | ((with_reducible refine gate_callee (f := 75) rfl ?_); refine goesL_ (some 12) rfl rfl Try.func75 (by kernel_rfl) rfl #[.pointer (some ⟨g, 0, none⟩), .int .i64 6] rfl (by (try simp only [List.map_toArray, List.map_cons, List.map_nil]); first | done | rfl | (simp only [List.length_drop, List.length_take]; rfl)) ?_; (with_reducible refine (spec_l01Below.calls g s0_0 t340 t341 6 t342 t343 t344 w0 _ ?side1 ?side2 A4.out).mono ?_); (case side1 => repeat (first | (with_reducible first | exact HI0.out | apply IsS97.alloc | apply IsS97.drewN | apply IsS97.drew | apply IsS97.set_1 | apply IsS97.set_2 | refine IsS97.far ?_ NB0_338.out _) | exact HI0.out)); (case side2 => repeat (first | (with_reducible first | exact HB.out | apply below_alloc | apply pw_below_drewN | apply below_drew1 | refine below_set ?_ (IsS97.ge HI0.out) | refine below_set ?_ GE338.out) | exact HB.out)); rintro e w10 ⟨rfl, hi, hb, hk⟩; refine ⟨_, rfl, ?_⟩; have n0_ := Aside0.mk (KeepBut.blk hk (g' := gb338) (o := .cells #[.int .i64 0, .int .i64 0, .slice none 0 0] 29 (0, 0)) (nB BK338.out) NB338_0.out (by simp)); have n1_ := Aside0.mk (KeepBut.trans (by repeat (first | (with_reducible first | exact HK.out | apply KeepBut.set_ | apply keep_drewN | apply keep_drew | apply keep_alloc | refine keep_far ?_ GW338.out _) | exact HK.out)) hk (.inl rfl)); have n2_ := Aside0.mk (hb); have n3_ := Aside0.mk (hi); clear BK338; clear HK; clear HB; clear HI0; have BK338 := n0_; have HK := n1_; have HB := n2_; have HI0 := n3_; clear n0_ n1_ n2_ n3_; (try clear hb); (try clear hb2); (try clear hk); (try clear hi)) | ((with_reducible refine gate_dst (N := 5) rfl ?_); refine box_event ?hg (N := 5) ?hd (cs := #[.int .i64 0, .int .i64 0, .slice none 0 0]) (t := 29) ?hr ?_; (case hd => rfl); (case hg => rfl); (case hr => first | (go_simp; done) | (go_simp; rfl)); intro gb345 hg w11 hbox hb; have n0_ := Aside0.mk (IsS97.below (by repeat (first | (with_reducible first | exact HI0.out | apply IsS97.alloc | apply IsS97.drewN | apply IsS97.drew | apply IsS97.set_1 | apply IsS97.set_2 | refine IsS97.far ?_ NB0_338.out _) | exact HI0.out)) hb); have n1_ := Aside0.mk (blk_below (g := gb338) (o := .cells #[.int .i64 0, .int .i64 0, .slice none 0 0] 29 (0, 0)) (nB BK338.out) hb); have n2_ := Aside0.mk (KeepBut.trans (by repeat (first | (with_reducible first | exact HK.out | apply KeepBut.set_ | apply keep_drewN | apply keep_drew | apply keep_alloc | refine keep_far ?_ GW338.out _) | exact HK.out)) (KeepBut.of_below hb g none) (.inl rfl)); have n3_ := Aside0.mk (below_step (by repeat (first | (with_reducible first | exact HB.out | apply below_alloc | apply pw_below_drewN | apply below_drew1 | refine below_set ?_ (IsS97.ge HI0.out) | refine below_set ?_ GE338.out) | exact HB.out)) hb); have n4_ := Aside0.mk (hbox); have n5_ := Aside0.mk ((by rw [hg]; exact (keep_size (w := w) (g := g) (row := none) (by repeat (first | (with_reducible first | exact HK.out | apply KeepBut.set_ | apply keep_drewN | apply keep_drew | apply keep_alloc | refine keep_far ?_ GW338.out _) | exact HK.out))) : w.heap.size ≤ gb345)); have n6_ := Aside0.mk ((Nat.le_trans HW0.out (by rw [hg]; exact (keep_size (w := w) (g := g) (row := none) (by repeat (first | (with_reducible first | exact HK.out | apply KeepBut.set_ | apply keep_drewN | apply keep_drew | apply keep_alloc | refine keep_far ?_ GW338.out _) | exact HK.out))) : w.heap.size ≤ gb345) : w0.heap.size ≤ gb345)); have n7_ := Aside0.mk ((by rw [hg]; exact Nat.ne_of_lt (blk_lt (g := gb338) (o := .cells #[.int .i64 0, .int .i64 0, .slice none 0 0] 29 (0, 0)) (nB BK338.out)) : gb338 ≠ gb345)); have n8_ := Aside0.mk ((by rw [hg]; exact Nat.ne_of_gt (blk_lt (g := gb338) (o := .cells #[.int .i64 0, .int .i64 0, .slice none 0 0] 29 (0, 0)) (nB BK338.out)) : gb345 ≠ gb338)); have n9_ := Aside0.mk ((by rw [hg]; exact Nat.ne_of_lt (IsS97.lt (show IsS97 w0 _ g s0_0 t343 t344 from by repeat (first | (with_reducible first | exact HI0.out | apply IsS97.alloc | apply IsS97.drewN | apply IsS97.drew | apply IsS97.set_1 | apply IsS97.set_2 | refine IsS97.far ?_ NB0_338.out _) | exact HI0.out))) : g ≠ gb345)); have n10_ := Aside0.mk ((by rw [hg]; exact Nat.ne_of_gt (IsS97.lt (show IsS97 w0 _ g s0_0 t343 t344 from by repeat (first | (with_reducible first | exact HI0.out | apply IsS97.alloc | apply IsS97.drewN | apply IsS97.drew | apply IsS97.set_1 | apply IsS97.set_2 | refine IsS97.far ?_ NB0_338.out _) | exact HI0.out))) : gb345 ≠ g)); clear HI0; clear BK338; clear HK; clear HB; have HI0 := n0_; have BK338 := n1_; have HK := n2_; have HB := n3_; have BK345 := n4_; have GW345 := n5_; have GE345 := n6_; have NB338_345 := n7_; have NB345_338 := n8_; have NB0_345 := n9_; have NB345_0 := n10_; clear n0_ n1_ n2_ n3_ n4_ n5_ n6_ n7_ n8_ n9_ n10_; clear hb hbox hg; have hnb12 := NB345_338.out; have hnc12 := NB338_345.out; have hnb13 := NB345_0.out; have hnc13 := NB0_345.out; have hcz14_0 : w11.cell? ⟨gb345, 0, none⟩ = some (.int .i64 0) := (blk_cell BK345.out 0).trans rfl; have hcz14_1 : w11.cell? ⟨gb345, 1, none⟩ = some (.int .i64 0) := (blk_cell BK345.out 1).trans rfl; have hcz14_2 : w11.cell? ⟨gb345, 2, none⟩ = some (.slice none 0 0) := (blk_cell BK345.out 2).trans rfl; have hfz14_0 := blk_frozen BK345.out 0; have hfz14_1 := blk_frozen BK345.out 1; have hfz14_2 := blk_frozen BK345.out 2))
 have n0_ : Aside0 ((((w11.setCell ⟨gb345, 0, none⟩ (.int .i64 (wrap64 (1 + t339)))).setCell ⟨gb345, 1, none⟩ (.int .i64 (wrap64 (1 + t342)))).setCell ⟨gb345, 2, none⟩ (.slice none 0 0)).heap[gb338]? = some (.cells #[.int .i64 0, .int .i64 0, .slice none 0 0] 29 (0, 0))) := ⟨by (with_reducible repeat (first | refine blk_drewN ?_ _ | refine blk_drew ?_ | refine blk_alloc ?_ _)); refine blk_far ?_ NB338_345.out _; (with_reducible repeat (first | refine blk_drewN ?_ _ | refine blk_drew ?_ | refine blk_alloc ?_ _)); refine blk_far ?_ NB338_345.out _; (with_reducible repeat (first | refine blk_drewN ?_ _ | refine blk_drew ?_ | refine blk_alloc ?_ _)); refine blk_far ?_ NB338_345.out _; (with_reducible repeat (first | refine blk_drewN ?_ _ | refine blk_drew ?_ | refine blk_alloc ?_ _)); exact BK338.out⟩
 have n1_ : Aside0 ((((w11.setCell ⟨gb345, 0, none⟩ (.int .i64 (wrap64 (1 + t339)))).setCell ⟨gb345, 1, none⟩ (.int .i64 (wrap64 (1 + t342)))).setCell ⟨gb345, 2, none⟩ (.slice none 0 0)).heap[gb345]? = some (.cells #[.int .i64 (wrap64 (1 + t339)), .int .i64 (wrap64 (1 + t342)), .slice none 0 0] 29 (0, 0))) := ⟨by (with_reducible repeat (first | refine blk_drewN ?_ _ | refine blk_drew ?_ | refine blk_alloc ?_ _)); refine blk_put (cs := #[.int .i64 (wrap64 (1 + t339)), .int .i64 (wrap64 (1 + t342)), .slice none 0 0]) ?_ 2 _ rfl; (with_reducible repeat (first | refine blk_drewN ?_ _ | refine blk_drew ?_ | refine blk_alloc ?_ _)); refine blk_put (cs := #[.int .i64 (wrap64 (1 + t339)), .int .i64 0, .slice none 0 0]) ?_ 1 _ rfl; (with_reducible repeat (first | refine blk_drewN ?_ _ | refine blk_drew ?_ | refine blk_alloc ?_ _)); refine blk_put (cs := #[.int .i64 0, .int .i64 0, .slice none 0 0]) ?_ 0 _ rfl; (with_reducible repeat (first | refine blk_drewN ?_ _ | refine blk_drew ?_ | refine blk_alloc ?_ _)); exact BK345.out⟩
 have n2_ : Aside0 (IsS97 w0 (((w11.setCell ⟨gb345, 0, none⟩ (.int .i64 (wrap64 (1 + t339)))).setCell ⟨gb345, 1, none⟩ (.int .i64 (wrap64 (1 + t342)))).setCell ⟨gb345, 2, none⟩ (.slice none 0 0)) g s0_0 t343 t344) := ⟨by repeat (first | (with_reducible first | exact HI0.out | apply IsS97.alloc | apply IsS97.drewN | apply IsS97.drew | apply IsS97.set_1 | apply IsS97.set_2 | refine IsS97.far ?_ NB0_338.out _ | refine IsS97.far ?_ NB0_345.out _) | exact HI0.out)⟩
 have n3_ : Aside0 (KeepBut w (((w11.setCell ⟨gb345, 0, none⟩ (.int .i64 (wrap64 (1 + t339)))).setCell ⟨gb345, 1, none⟩ (.int .i64 (wrap64 (1 + t342)))).setCell ⟨gb345, 2, none⟩ (.slice none 0 0)) g none) := ⟨by repeat (first | (with_reducible first | exact HK.out | apply KeepBut.set_ | apply keep_drewN | apply keep_drew | apply keep_alloc | refine keep_far ?_ GW338.out _ | refine keep_far ?_ GW345.out _) | exact HK.out)⟩
 have n4_ : Aside0 (Below w0.heap.size w0 (((w11.setCell ⟨gb345, 0, none⟩ (.int .i64 (wrap64 (1 + t339)))).setCell ⟨gb345, 1, none⟩ (.int .i64 (wrap64 (1 + t342)))).setCell ⟨gb345, 2, none⟩ (.slice none 0 0))) := ⟨by repeat (first | (with_reducible first | exact HB.out | apply below_alloc | apply pw_below_drewN | apply below_drew1 | refine below_set ?_ (IsS97.ge HI0.out) | refine below_set ?_ GE338.out | refine below_set ?_ GE345.out) | exact HB.out)⟩
 (try clear BK338); (try clear BK345); (try clear HI0); (try clear HK); (try clear HB)
 generalize (((w11.setCell ⟨gb345, 0, none⟩ (.int .i64 (wrap64 (1 + t339)))).setCell ⟨gb345, 1, none⟩ (.int .i64 (wrap64 (1 + t342)))).setCell ⟨gb345, 2, none⟩ (.slice none 0 0)) = w15 at n0_ n1_ n2_ n3_ n4_ ⊢
 have BK338 := n0_; have BK345 := n1_; have HI0 := n2_; have HK := n3_; have HB := n4_; clear n0_ n1_ n2_ n3_ n4_
 have n0_ := Aside0.mk (blk_drew BK338.out)
 have n1_ := Aside0.mk (blk_drew BK345.out)
 have n2_ := Aside0.mk (IsS97.drew HI0.out)
 have n3_ := Aside0.mk (keep_drew HK.out)
 have n4_ := Aside0.mk (below_drew1 HB.out)
 clear BK338; clear BK345; clear HI0; clear HK; clear HB; have BK338 := n0_; have BK345 := n1_; have HI0 := n2_; have HK := n3_; have HB := n4_; clear n0_ n1_ n2_ n3_ n4_
 refine start_ (n := 15) (S := fun w' => w'.cell? ⟨gb345, 0, none⟩ = some (.int .i64 (wrap64 (1 + t339))) ∧ w'.cell? ⟨gb345, 1, none⟩ = some (.int .i64 (wrap64 (1 + t342))) ∧ w'.cell? ⟨gb345, 2, none⟩ = some (.slice none 0 0)) (ds := []) #[F,F,F,F,F,F,F,F,F,F,F,F,F,F,F] (by kernel_rfl) rfl rfl ⟨(blk_cell BK345.out 0).trans rfl, (blk_cell BK345.out 1).trans rfl, (blk_cell BK345.out 2).trans rfl⟩ (fun hHeld => ?_); refine with_tabW spec_l14DrawRight.tab2 spec_l14DrawRight.bits2 (fun HT_ HW_ => ?_)
 generalize w15.drew = w16 at BK338 BK345 HI0 HK HB hHeld ⊢
 refine pU 1 (some 17) #[F,T,F,F,F,F,F,F,F,F,F,F,F,F,F] rfl rfl HT_.out ?_
 refine pU 2 (some 18) #[F,T,T,F,F,F,F,F,F,F,F,F,F,F,F] rfl rfl HT_.out ?_
 refine pU 5 (some 21) #[F,T,T,F,F,T,F,F,F,F,F,F,F,F,F] rfl rfl HT_.out ?_
 refine tU3 0 (some 16) #[T,T,T,F,F,T,F,F,F,F,F,F,F,F,F] rfl rfl HT_.out HW_.out hHeld ?_
 refine tU3 6 (some 22) #[T,T,T,F,F,T,T,F,F,F,F,F,F,F,F] rfl rfl HT_.out HW_.out hHeld ?_
 refine join_ (σ := Value × Value × Value × Nat) 2 #[T,T,T,T,T,T,T,T,T,T,T,T,T,F,F] (fun s_ => [(19, .int .i64 t346), (23, s_.1), (24, .tuple #[.agg #[.int .i64 t352, .int .i64 t353, s_.2.1], s_.2.2.1]), (6, .pointer (some ⟨s_.2.2.2, 0, none⟩)), (20, .int .i64 (wrap64 (2 + t346))), (15, .tuple #[.agg #[.int .i64 t352, .int .i64 t353, s_.2.1], s_.2.2.1]), (25, .agg #[.int .i64 t352, .int .i64 t353, s_.2.1]), (26, s_.2.2.1)]) (fun s_ w' => (w'.cell? ⟨gb345, 0, none⟩ = some (.int .i64 (wrap64 (1 + t339))) ∧ w'.cell? ⟨gb345, 1, none⟩ = some (.int .i64 (wrap64 (1 + t342))) ∧ w'.cell? ⟨gb345, 2, none⟩ = some (.slice none 0 0)) ∧ (Kd.R k56 56 w' w.heap.size (fun _ => True) s_.1 t347) ∧ (Kd.R k66 66 w' w.heap.size (fun _ => True) s_.2.1 t354) ∧ (Kd.R (Kd.int .i64) 3 w' w.heap.size (fun _ => True) s_.2.2.1 t357) ∧ (w'.heap[gb338]? = some (.cells #[.int .i64 0, .int .i64 0, .slice none 0 0] 29 (0, 0))) ∧ (w'.heap[gb345]? = some (.cells #[.int .i64 (wrap64 (1 + t339)), .int .i64 (wrap64 (1 + t342)), .slice none 0 0] 29 (0, 0))) ∧ (w'.heap[s_.2.2.2]? = some (.cells #[.int .i64 0, .int .i64 0, .slice none 0 0] 29 (0, 0))) ∧ (w.heap.size ≤ s_.2.2.2) ∧ (w0.heap.size ≤ s_.2.2.2) ∧ (g ≠ s_.2.2.2) ∧ (s_.2.2.2 ≠ g) ∧ (gb338 ≠ s_.2.2.2) ∧ (s_.2.2.2 ≠ gb338) ∧ (gb345 ≠ s_.2.2.2) ∧ (s_.2.2.2 ≠ gb345) ∧ (IsS97 w0 w' g s0_0 t350 t351) ∧ (KeepBut w w' g none) ∧ (Below w0.heap.size w0 w')) ?_ ?_
 rotate_left
 · intro hCont
   refine two_ (i := 3) (j := 12) (Ni := some 19) (Nj := some 6) #[T,T,T,T,F,T,T,F,F,F,F,F,F,F,F] #[T,T,T,F,F,T,T,F,F,F,F,F,T,F,F] rfl rfl rfl rfl (two_of HT_.out (by kernel_rfl)) (by decide) (by decide) (fun K hK => ?_) (fun K hK => ?_)
   · skip
     refine goes_ Try.func66 (by kernel_rfl) rfl #[.slice A1 l1.length c1, .int .i64 16] (by rfl) rfl rfl (by (try simp only [List.map_toArray, List.map_cons, List.map_nil]); first | done | rfl | (simp only [List.length_drop, List.length_take]; rfl)) ?_
     with_reducible refine (spec_l01Size.calls _ _ l1 16 t346 _ ?side1 ?side2 A5.out).mono ?_
     (case side1 => exact Kd.C_keep 0 HR1.out (by repeat (first | (with_reducible first | exact HK.out | apply KeepBut.set_ | apply keep_drewN | apply keep_drew | apply keep_alloc | refine keep_far ?_ GW338.out _ | refine keep_far ?_ GW345.out _) | exact HK.out)) hf1)
     (case side2 => exact HC1.out)
     rintro e w' ⟨rfl, ⟨nd, rfl⟩⟩
     refine ⟨_, rfl, ?_⟩
     refine hK.out _ _ ⟨(blk_cell BK345.out 0).trans rfl, (blk_cell BK345.out 1).trans rfl, (blk_cell BK345.out 2).trans rfl⟩ (fun hHeld => ?_)
     clear hK K
     refine norm_ (a' := ?_) ?_ ?_
     rotate_left
     · show Act.put _ (some 19) _ = _
       simp only [Act.put, List.setIfInBounds_toArray, List.set_cons_zero, List.set_cons_succ, i64_w, i32_w]
       rfl
     refine pU 4 (some 20) #[T,T,T,T,T,T,T,F,F,F,F,F,F,F,F] rfl rfl HT_.out ?_
     refine two_ (i := 7) (j := 12) (Ni := some 23) (Nj := some 6) #[T,T,T,T,T,T,T,T,F,F,F,F,F,F,F] #[T,T,T,T,T,T,T,F,F,F,F,F,T,F,F] rfl rfl rfl rfl (two_of HT_.out (by kernel_rfl)) (by decide) (by decide) (fun K hK => ?_) (fun K hK => ?_)
     · skip
       refine goes_ Try.func65 (by kernel_rfl) rfl #[.pointer (some ⟨g, 0, none⟩), .int .i64 (wrap64 (2 + t346)), .int .i64 (wrap64 (1 + t342))] (by rfl) rfl rfl (by (try simp only [List.map_toArray, List.map_cons, List.map_nil]); first | done | rfl | (simp only [List.length_drop, List.length_take]; rfl)) ?_
       with_reducible refine (spec_l14DrawSales.calls k g s0_0 t343 t344 (wrap64 (2 + t346)) (wrap64 (1 + t342)) t347 t350 t351 w0 _ ?side1 ?side2 A6.out).mono ?_
       (case side1 => repeat (first | (with_reducible first | exact HI0.out | apply IsS97.alloc | apply IsS97.drewN | apply IsS97.drew | apply IsS97.set_1 | apply IsS97.set_2 | refine IsS97.far ?_ NB0_338.out _ | refine IsS97.far ?_ NB0_345.out _) | exact HI0.out))
       (case side2 => repeat (first | (with_reducible first | exact HB.out | apply below_alloc | apply pw_below_drewN | apply below_drew1 | refine below_set ?_ (IsS97.ge HI0.out) | refine below_set ?_ GE338.out | refine below_set ?_ GE345.out) | exact HB.out))
       rintro e w17 ⟨v348, rfl, ho0, hi, hb, hk⟩
       refine ⟨_, rfl, ?_⟩
       have n0_ := Aside0.mk (KeepBut.blk hk (g' := gb338) (o := .cells #[.int .i64 0, .int .i64 0, .slice none 0 0] 29 (0, 0)) (nB BK338.out) NB338_0.out (by simp))
       have n1_ := Aside0.mk (KeepBut.blk hk (g' := gb345) (o := .cells #[.int .i64 (wrap64 (1 + t339)), .int .i64 (wrap64 (1 + t342)), .slice none 0 0] 29 (0, 0)) (nB BK345.out) NB345_0.out (by simp))
       have n2_ := Aside0.mk (Kd.R_lower ho0 (keep_size (w := w) (g := g) (row := none) (by repeat (first | (with_reducible first | exact HK.out | apply KeepBut.set_ | apply keep_drewN | apply keep_drew | apply keep_alloc | refine keep_far ?_ GW338.out _ | refine keep_far ?_ GW345.out _) | exact HK.out))))
       have n3_ := Aside0.mk (KeepBut.trans (by repeat (first | (with_reducible first | exact HK.out | apply KeepBut.set_ | apply keep_drewN | apply keep_drew | apply keep_alloc | refine keep_far ?_ GW338.out _ | refine keep_far ?_ GW345.out _) | exact HK.out)) hk (.inl rfl))
       have n4_ := Aside0.mk (hb)
       have n5_ := Aside0.mk (hi)
       clear BK338; clear BK345; clear HK; clear HB; clear HI0; have BK338 := n0_; have BK345 := n1_; have HO349 := n2_; have HK := n3_; have HB := n4_; have HI0 := n5_; clear n0_ n1_ n2_ n3_ n4_ n5_; (try clear hb); (try clear hb2); (try clear hk); (try clear hi); (try clear ho0)
       obtain ⟨Ao18, co18, eo18⟩ := Kd.R_slice HO349.out
       (first | subst eo18 | (injection eo18 with f1_ f2_ f3_; have f4_ := f1_.symm; have f5_ := f3_.symm; clear f1_ f2_ f3_; subst f4_; subst f5_))
       refine hK.out _ _ ⟨(blk_cell BK345.out 0).trans rfl, (blk_cell BK345.out 1).trans rfl, (blk_cell BK345.out 2).trans rfl⟩ (fun hHeld => ?_)
       clear hK K
       refine norm_ (a' := ?_) ?_ ?_
       rotate_left
       · show Act.put _ (some 23) _ = _
         simp only [Act.put, List.setIfInBounds_toArray, List.set_cons_zero, List.set_cons_succ, i64_w, i32_w]
         rfl
       refine two_ (i := 8) (j := 12) (Ni := some 24) (Nj := some 6) #[T,T,T,T,T,T,T,T,T,F,F,F,F,F,F] #[T,T,T,T,T,T,T,T,F,F,F,F,T,F,F] rfl rfl rfl rfl (two_of HT_.out (by kernel_rfl)) (by decide) (by decide) (fun K hK => ?_) (fun K hK => ?_)
       · skip
         refine goes_ Try.func40 (by kernel_rfl) rfl #[.agg #[.int .i64 (wrap64 (1 + t339)), .int .i64 (wrap64 (1 + t342)), .slice none 0 0], .slice Ao18 t347.length co18] (by rfl) rfl rfl (by (try simp only [List.map_toArray, List.map_cons, List.map_nil]); first | done | rfl | (simp only [List.length_drop, List.length_take]; rfl)) ?_
         refine (spec_PlaySales.calls k (wrap64 (1 + t339)) (wrap64 (1 + t342)) _ _ ([] : List (S66)) _ _ t347 t352 t353 t354 t357 _ ?side1 ?side2 ?side3 ?side4 A7.out).mono ?_
         (case side1 => exact Kd.C_nil _ _)
         (case side2 => exact Nat.le_refl _)
         (case side3 => repeat (first | exact (Kd.R_reads' HO349.out).2.2 | (with_reducible refine Kd.C_alloc ?_ _) | (with_reducible refine Kd.C_drewN ?_ _) | (with_reducible refine Kd.C_drew ?_)))
         (case side4 => exact (Kd.R_reads' HO349.out).2.1)
         rintro e w19 ⟨v355, v358, rfl, ho0, ho1, hb⟩
         refine ⟨_, rfl, ?_⟩
         have n0_ := Aside0.mk (Kd.R_below (nR HO349.out) hb)
         have n1_ := Aside0.mk (Kd.R_lower ho0 (keep_size (w := w) (g := g) (row := none) (by repeat (first | (with_reducible first | exact HK.out | apply KeepBut.set_ | apply keep_drewN | apply keep_drew | apply keep_alloc | refine keep_far ?_ GW338.out _ | refine keep_far ?_ GW345.out _) | exact HK.out))))
         have n2_ := Aside0.mk (Kd.R_lower ho1 (keep_size (w := w) (g := g) (row := none) (by repeat (first | (with_reducible first | exact HK.out | apply KeepBut.set_ | apply keep_drewN | apply keep_drew | apply keep_alloc | refine keep_far ?_ GW338.out _ | refine keep_far ?_ GW345.out _) | exact HK.out))))
         have n3_ := Aside0.mk (IsS97.below (by repeat (first | (with_reducible first | exact HI0.out | apply IsS97.alloc | apply IsS97.drewN | apply IsS97.drew | apply IsS97.set_1 | apply IsS97.set_2 | refine IsS97.far ?_ NB0_338.out _ | refine IsS97.far ?_ NB0_345.out _) | exact HI0.out)) hb)
         have n4_ := Aside0.mk (blk_below (g := gb338) (o := .cells #[.int .i64 0, .int .i64 0, .slice none 0 0] 29 (0, 0)) (nB BK338.out) hb)
         have n5_ := Aside0.mk (blk_below (g := gb345) (o := .cells #[.int .i64 (wrap64 (1 + t339)), .int .i64 (wrap64 (1 + t342)), .slice none 0 0] 29 (0, 0)) (nB BK345.out) hb)
         have n6_ := Aside0.mk (KeepBut.trans (by repeat (first | (with_reducible first | exact HK.out | apply KeepBut.set_ | apply keep_drewN | apply keep_drew | apply keep_alloc | refine keep_far ?_ GW338.out _ | refine keep_far ?_ GW345.out _) | exact HK.out)) (KeepBut.of_below hb g none) (.inl rfl))
         have n7_ := Aside0.mk (below_step (by repeat (first | (with_reducible first | exact HB.out | apply below_alloc | apply pw_below_drewN | apply below_drew1 | refine below_set ?_ (IsS97.ge HI0.out) | refine below_set ?_ GE338.out | refine below_set ?_ GE345.out) | exact HB.out)) hb)
         clear HO349; clear HI0; clear BK338; clear BK345; clear HK; clear HB; have HO349 := n0_; have HO356 := n1_; have HO359 := n2_; have HI0 := n3_; have BK338 := n4_; have BK345 := n5_; have HK := n6_; have HB := n7_; clear n0_ n1_ n2_ n3_ n4_ n5_ n6_ n7_; (try clear hb); (try clear hb2); (try clear hk); (try clear hi); (try clear ho0); (try clear ho1)
         refine hK.out _ _ ⟨(blk_cell BK345.out 0).trans rfl, (blk_cell BK345.out 1).trans rfl, (blk_cell BK345.out 2).trans rfl⟩ (fun hHeld => ?_)
         clear hK K
         refine norm_ (a' := ?_) ?_ ?_
         rotate_left
         · show Act.put _ (some 24) _ = _
           simp only [Act.put, List.setIfInBounds_toArray, List.set_cons_zero, List.set_cons_succ, i64_w, i32_w]
           rfl
         refine pU 9 (some 15) #[T,T,T,T,T,T,T,T,T,T,F,F,F,F,F] rfl rfl HT_.out ?_
         refine pU 10 (some 25) #[T,T,T,T,T,T,T,T,T,T,T,F,F,F,F] rfl rfl HT_.out ?_
         refine pU 11 (some 26) #[T,T,T,T,T,T,T,T,T,T,T,T,F,F,F] rfl rfl HT_.out ?_
         refine one_ (i := 12) (N := some 6) #[T,T,T,T,T,T,T,T,T,T,T,T,T,F,F] rfl rfl (one_of HT_.out (by kernel_rfl)) (by decide) (fun K hK => ?_)
         refine box_step ?hg (N := 6) ?hd (cs := #[.int .i64 0, .int .i64 0, .slice none 0 0]) (t := 29) ?hr ?_; (case hd => rfl); (case hg => rfl); (case hr => first | (go_simp; done) | (go_simp; rfl))
         intro gb360 hg w20 hbox hb
         have n0_ := Aside0.mk (Kd.R_below (nR HO349.out) hb)
         have n1_ := Aside0.mk (Kd.R_below (nR HO356.out) hb)
         have n2_ := Aside0.mk (Kd.R_below (nR HO359.out) hb)
         have n3_ := Aside0.mk (IsS97.below (by repeat (first | (with_reducible first | exact HI0.out | apply IsS97.alloc | apply IsS97.drewN | apply IsS97.drew | apply IsS97.set_1 | apply IsS97.set_2 | refine IsS97.far ?_ NB0_338.out _ | refine IsS97.far ?_ NB0_345.out _) | exact HI0.out)) hb)
         have n4_ := Aside0.mk (blk_below (g := gb338) (o := .cells #[.int .i64 0, .int .i64 0, .slice none 0 0] 29 (0, 0)) (nB BK338.out) hb)
         have n5_ := Aside0.mk (blk_below (g := gb345) (o := .cells #[.int .i64 (wrap64 (1 + t339)), .int .i64 (wrap64 (1 + t342)), .slice none 0 0] 29 (0, 0)) (nB BK345.out) hb)
         have n6_ := Aside0.mk (KeepBut.trans (by repeat (first | (with_reducible first | exact HK.out | apply KeepBut.set_ | apply keep_drewN | apply keep_drew | apply keep_alloc | refine keep_far ?_ GW338.out _ | refine keep_far ?_ GW345.out _) | exact HK.out)) (KeepBut.of_below hb g none) (.inl rfl))
         have n7_ := Aside0.mk (below_step (by repeat (first | (with_reducible first | exact HB.out | apply below_alloc | apply pw_below_drewN | apply below_drew1 | refine below_set ?_ (IsS97.ge HI0.out) | refine below_set ?_ GE338.out | refine below_set ?_ GE345.out) | exact HB.out)) hb)
         have n8_ := Aside0.mk (hbox)
         have n9_ := Aside0.mk ((by rw [hg]; exact (keep_size (w := w) (g := g) (row := none) (by repeat (first | (with_reducible first | exact HK.out | apply KeepBut.set_ | apply keep_drewN | apply keep_drew | apply keep_alloc | refine keep_far ?_ GW338.out _ | refine keep_far ?_ GW345.out _) | exact HK.out))) : w.heap.size ≤ gb360))
         have n10_ := Aside0.mk ((Nat.le_trans HW0.out (by rw [hg]; exact (keep_size (w := w) (g := g) (row := none) (by repeat (first | (with_reducible first | exact HK.out | apply KeepBut.set_ | apply keep_drewN | apply keep_drew | apply keep_alloc | refine keep_far ?_ GW338.out _ | refine keep_far ?_ GW345.out _) | exact HK.out))) : w.heap.size ≤ gb360) : w0.heap.size ≤ gb360))
         have n11_ := Aside0.mk ((by rw [hg]; exact Nat.ne_of_lt (blk_lt (g := gb338) (o := .cells #[.int .i64 0, .int .i64 0, .slice none 0 0] 29 (0, 0)) (nB BK338.out)) : gb338 ≠ gb360))
         have n12_ := Aside0.mk ((by rw [hg]; exact Nat.ne_of_gt (blk_lt (g := gb338) (o := .cells #[.int .i64 0, .int .i64 0, .slice none 0 0] 29 (0, 0)) (nB BK338.out)) : gb360 ≠ gb338))
         have n13_ := Aside0.mk ((by rw [hg]; exact Nat.ne_of_lt (blk_lt (g := gb345) (o := .cells #[.int .i64 (wrap64 (1 + t339)), .int .i64 (wrap64 (1 + t342)), .slice none 0 0] 29 (0, 0)) (nB BK345.out)) : gb345 ≠ gb360))
         have n14_ := Aside0.mk ((by rw [hg]; exact Nat.ne_of_gt (blk_lt (g := gb345) (o := .cells #[.int .i64 (wrap64 (1 + t339)), .int .i64 (wrap64 (1 + t342)), .slice none 0 0] 29 (0, 0)) (nB BK345.out)) : gb360 ≠ gb345))
         have n15_ := Aside0.mk ((by rw [hg]; exact Nat.ne_of_lt (IsS97.lt (show IsS97 w0 _ g s0_0 t350 t351 from by repeat (first | (with_reducible first | exact HI0.out | apply IsS97.alloc | apply IsS97.drewN | apply IsS97.drew | apply IsS97.set_1 | apply IsS97.set_2 | refine IsS97.far ?_ NB0_338.out _ | refine IsS97.far ?_ NB0_345.out _) | exact HI0.out))) : g ≠ gb360))
         have n16_ := Aside0.mk ((by rw [hg]; exact Nat.ne_of_gt (IsS97.lt (show IsS97 w0 _ g s0_0 t350 t351 from by repeat (first | (with_reducible first | exact HI0.out | apply IsS97.alloc | apply IsS97.drewN | apply IsS97.drew | apply IsS97.set_1 | apply IsS97.set_2 | refine IsS97.far ?_ NB0_338.out _ | refine IsS97.far ?_ NB0_345.out _) | exact HI0.out))) : gb360 ≠ g))
         clear HO349; clear HO356; clear HO359; clear HI0; clear BK338; clear BK345; clear HK; clear HB; have HO349 := n0_; have HO356 := n1_; have HO359 := n2_; have HI0 := n3_; have BK338 := n4_; have BK345 := n5_; have HK := n6_; have HB := n7_; have BK360 := n8_; have GW360 := n9_; have GE360 := n10_; have NB338_360 := n11_; have NB360_338 := n12_; have NB345_360 := n13_; have NB360_345 := n14_; have NB0_360 := n15_; have NB360_0 := n16_; clear n0_ n1_ n2_ n3_ n4_ n5_ n6_ n7_ n8_ n9_ n10_ n11_ n12_ n13_ n14_ n15_ n16_; clear hb hbox hg
         refine hK.out _ _ ⟨(blk_cell BK345.out 0).trans rfl, (blk_cell BK345.out 1).trans rfl, (blk_cell BK345.out 2).trans rfl⟩ (fun hHeld => ?_)
         clear hK K
         refine norm_ (a' := ?_) ?_ ?_
         rotate_left
         · show Act.put _ (some 6) _ = _
           simp only [Act.put, List.setIfInBounds_toArray, List.set_cons_zero, List.set_cons_succ, i64_w, i32_w]
           rfl
         exact norm_ (by simp only [putAll, Act.put, List.setIfInBounds_toArray, List.set_cons_zero, List.set_cons_succ]) (hCont (.slice Ao18 t347.length co18, v355, v358, gb360) _ ⟨hHeld, (nR HO349.out), (nR HO356.out), (nR HO359.out), (nB BK338.out), (nB BK345.out), (nB BK360.out), GW360.out, GE360.out, NB0_360.out, NB360_0.out, NB338_360.out, NB360_338.out, NB345_360.out, NB360_345.out, (by repeat (first | (with_reducible first | exact HI0.out | apply IsS97.alloc | apply IsS97.drewN | apply IsS97.drew | apply IsS97.set_1 | apply IsS97.set_2 | refine IsS97.far ?_ NB0_338.out _ | refine IsS97.far ?_ NB0_345.out _ | refine IsS97.far ?_ NB0_360.out _) | exact HI0.out)), (by repeat (first | (with_reducible first | exact HK.out | apply KeepBut.set_ | apply keep_drewN | apply keep_drew | apply keep_alloc | refine keep_far ?_ GW338.out _ | refine keep_far ?_ GW345.out _ | refine keep_far ?_ GW360.out _) | exact HK.out)), (by repeat (first | (with_reducible first | exact HB.out | apply below_alloc | apply pw_below_drewN | apply below_drew1 | refine below_set ?_ (IsS97.ge HI0.out) | refine below_set ?_ GE338.out | refine below_set ?_ GE345.out | refine below_set ?_ GE360.out) | exact HB.out))⟩)
       · skip
         refine box_step ?hg (N := 6) ?hd (cs := #[.int .i64 0, .int .i64 0, .slice none 0 0]) (t := 29) ?hr ?_; (case hd => rfl); (case hg => rfl); (case hr => first | (go_simp; done) | (go_simp; rfl))
         intro gb360 hg w18 hbox hb
         have n0_ := Aside0.mk (Kd.R_below (nR HO349.out) hb)
         have n1_ := Aside0.mk (IsS97.below (by repeat (first | (with_reducible first | exact HI0.out | apply IsS97.alloc | apply IsS97.drewN | apply IsS97.drew | apply IsS97.set_1 | apply IsS97.set_2 | refine IsS97.far ?_ NB0_338.out _ | refine IsS97.far ?_ NB0_345.out _) | exact HI0.out)) hb)
         have n2_ := Aside0.mk (blk_below (g := gb338) (o := .cells #[.int .i64 0, .int .i64 0, .slice none 0 0] 29 (0, 0)) (nB BK338.out) hb)
         have n3_ := Aside0.mk (blk_below (g := gb345) (o := .cells #[.int .i64 (wrap64 (1 + t339)), .int .i64 (wrap64 (1 + t342)), .slice none 0 0] 29 (0, 0)) (nB BK345.out) hb)
         have n4_ := Aside0.mk (KeepBut.trans (by repeat (first | (with_reducible first | exact HK.out | apply KeepBut.set_ | apply keep_drewN | apply keep_drew | apply keep_alloc | refine keep_far ?_ GW338.out _ | refine keep_far ?_ GW345.out _) | exact HK.out)) (KeepBut.of_below hb g none) (.inl rfl))
         have n5_ := Aside0.mk (below_step (by repeat (first | (with_reducible first | exact HB.out | apply below_alloc | apply pw_below_drewN | apply below_drew1 | refine below_set ?_ (IsS97.ge HI0.out) | refine below_set ?_ GE338.out | refine below_set ?_ GE345.out) | exact HB.out)) hb)
         have n6_ := Aside0.mk (hbox)
         have n7_ := Aside0.mk ((by rw [hg]; exact (keep_size (w := w) (g := g) (row := none) (by repeat (first | (with_reducible first | exact HK.out | apply KeepBut.set_ | apply keep_drewN | apply keep_drew | apply keep_alloc | refine keep_far ?_ GW338.out _ | refine keep_far ?_ GW345.out _) | exact HK.out))) : w.heap.size ≤ gb360))
         have n8_ := Aside0.mk ((Nat.le_trans HW0.out (by rw [hg]; exact (keep_size (w := w) (g := g) (row := none) (by repeat (first | (with_reducible first | exact HK.out | apply KeepBut.set_ | apply keep_drewN | apply keep_drew | apply keep_alloc | refine keep_far ?_ GW338.out _ | refine keep_far ?_ GW345.out _) | exact HK.out))) : w.heap.size ≤ gb360) : w0.heap.size ≤ gb360))
         have n9_ := Aside0.mk ((by rw [hg]; exact Nat.ne_of_lt (blk_lt (g := gb338) (o := .cells #[.int .i64 0, .int .i64 0, .slice none 0 0] 29 (0, 0)) (nB BK338.out)) : gb338 ≠ gb360))
         have n10_ := Aside0.mk ((by rw [hg]; exact Nat.ne_of_gt (blk_lt (g := gb338) (o := .cells #[.int .i64 0, .int .i64 0, .slice none 0 0] 29 (0, 0)) (nB BK338.out)) : gb360 ≠ gb338))
         have n11_ := Aside0.mk ((by rw [hg]; exact Nat.ne_of_lt (blk_lt (g := gb345) (o := .cells #[.int .i64 (wrap64 (1 + t339)), .int .i64 (wrap64 (1 + t342)), .slice none 0 0] 29 (0, 0)) (nB BK345.out)) : gb345 ≠ gb360))
         have n12_ := Aside0.mk ((by rw [hg]; exact Nat.ne_of_gt (blk_lt (g := gb345) (o := .cells #[.int .i64 (wrap64 (1 + t339)), .int .i64 (wrap64 (1 + t342)), .slice none 0 0] 29 (0, 0)) (nB BK345.out)) : gb360 ≠ gb345))
         have n13_ := Aside0.mk ((by rw [hg]; exact Nat.ne_of_lt (IsS97.lt (show IsS97 w0 _ g s0_0 t350 t351 from by repeat (first | (with_reducible first | exact HI0.out | apply IsS97.alloc | apply IsS97.drewN | apply IsS97.drew | apply IsS97.set_1 | apply IsS97.set_2 | refine IsS97.far ?_ NB0_338.out _ | refine IsS97.far ?_ NB0_345.out _) | exact HI0.out))) : g ≠ gb360))
         have n14_ := Aside0.mk ((by rw [hg]; exact Nat.ne_of_gt (IsS97.lt (show IsS97 w0 _ g s0_0 t350 t351 from by repeat (first | (with_reducible first | exact HI0.out | apply IsS97.alloc | apply IsS97.drewN | apply IsS97.drew | apply IsS97.set_1 | apply IsS97.set_2 | refine IsS97.far ?_ NB0_338.out _ | refine IsS97.far ?_ NB0_345.out _) | exact HI0.out))) : gb360 ≠ g))
         clear HO349; clear HI0; clear BK338; clear BK345; clear HK; clear HB; have HO349 := n0_; have HI0 := n1_; have BK338 := n2_; have BK345 := n3_; have HK := n4_; have HB := n5_; have BK360 := n6_; have GW360 := n7_; have GE360 := n8_; have NB338_360 := n9_; have NB360_338 := n10_; have NB345_360 := n11_; have NB360_345 := n12_; have NB0_360 := n13_; have NB360_0 := n14_; clear n0_ n1_ n2_ n3_ n4_ n5_ n6_ n7_ n8_ n9_ n10_ n11_ n12_ n13_ n14_; clear hb hbox hg
         obtain ⟨Ao19, co19, eo19⟩ := Kd.R_slice HO349.out
         (first | subst eo19 | (injection eo19 with f1_ f2_ f3_; have f4_ := f1_.symm; have f5_ := f3_.symm; clear f1_ f2_ f3_; subst f4_; subst f5_))
         refine hK.out _ _ ⟨(blk_cell BK345.out 0).trans rfl, (blk_cell BK345.out 1).trans rfl, (blk_cell BK345.out 2).trans rfl⟩ (fun hHeld => ?_)
         clear hK K
         refine norm_ (a' := ?_) ?_ ?_
         rotate_left
         · show Act.put _ (some 6) _ = _
           simp only [Act.put, List.setIfInBounds_toArray, List.set_cons_zero, List.set_cons_succ, i64_w, i32_w]
           rfl
         refine one_ (i := 8) (N := some 24) #[T,T,T,T,T,T,T,T,T,F,F,F,T,F,F] rfl rfl (one_of HT_.out (by kernel_rfl)) (by decide) (fun K hK => ?_)
         refine goes_ Try.func40 (by kernel_rfl) rfl #[.agg #[.int .i64 (wrap64 (1 + t339)), .int .i64 (wrap64 (1 + t342)), .slice none 0 0], .slice Ao19 t347.length co19] (by rfl) rfl rfl (by (try simp only [List.map_toArray, List.map_cons, List.map_nil]); first | done | rfl | (simp only [List.length_drop, List.length_take]; rfl)) ?_
         refine (spec_PlaySales.calls k (wrap64 (1 + t339)) (wrap64 (1 + t342)) _ _ ([] : List (S66)) _ _ t347 t352 t353 t354 t357 _ ?side1 ?side2 ?side3 ?side4 A7.out).mono ?_
         (case side1 => exact Kd.C_nil _ _)
         (case side2 => exact Nat.le_refl _)
         (case side3 => repeat (first | exact (Kd.R_reads' HO349.out).2.2 | (with_reducible refine Kd.C_alloc ?_ _) | (with_reducible refine Kd.C_drewN ?_ _) | (with_reducible refine Kd.C_drew ?_)))
         (case side4 => exact (Kd.R_reads' HO349.out).2.1)
         rintro e w20 ⟨v355, v358, rfl, ho0, ho1, hb⟩
         refine ⟨_, rfl, ?_⟩
         have n0_ := Aside0.mk (Kd.R_below (nR HO349.out) hb)
         have n1_ := Aside0.mk (Kd.R_lower ho0 (keep_size (w := w) (g := g) (row := none) (by repeat (first | (with_reducible first | exact HK.out | apply KeepBut.set_ | apply keep_drewN | apply keep_drew | apply keep_alloc | refine keep_far ?_ GW338.out _ | refine keep_far ?_ GW345.out _ | refine keep_far ?_ GW360.out _) | exact HK.out))))
         have n2_ := Aside0.mk (Kd.R_lower ho1 (keep_size (w := w) (g := g) (row := none) (by repeat (first | (with_reducible first | exact HK.out | apply KeepBut.set_ | apply keep_drewN | apply keep_drew | apply keep_alloc | refine keep_far ?_ GW338.out _ | refine keep_far ?_ GW345.out _ | refine keep_far ?_ GW360.out _) | exact HK.out))))
         have n3_ := Aside0.mk (IsS97.below (by repeat (first | (with_reducible first | exact HI0.out | apply IsS97.alloc | apply IsS97.drewN | apply IsS97.drew | apply IsS97.set_1 | apply IsS97.set_2 | refine IsS97.far ?_ NB0_338.out _ | refine IsS97.far ?_ NB0_345.out _ | refine IsS97.far ?_ NB0_360.out _) | exact HI0.out)) hb)
         have n4_ := Aside0.mk (blk_below (g := gb338) (o := .cells #[.int .i64 0, .int .i64 0, .slice none 0 0] 29 (0, 0)) (nB BK338.out) hb)
         have n5_ := Aside0.mk (blk_below (g := gb345) (o := .cells #[.int .i64 (wrap64 (1 + t339)), .int .i64 (wrap64 (1 + t342)), .slice none 0 0] 29 (0, 0)) (nB BK345.out) hb)
         have n6_ := Aside0.mk (blk_below (g := gb360) (o := .cells #[.int .i64 0, .int .i64 0, .slice none 0 0] 29 (0, 0)) (nB BK360.out) hb)
         have n7_ := Aside0.mk (KeepBut.trans (by repeat (first | (with_reducible first | exact HK.out | apply KeepBut.set_ | apply keep_drewN | apply keep_drew | apply keep_alloc | refine keep_far ?_ GW338.out _ | refine keep_far ?_ GW345.out _ | refine keep_far ?_ GW360.out _) | exact HK.out)) (KeepBut.of_below hb g none) (.inl rfl))
         have n8_ := Aside0.mk (below_step (by repeat (first | (with_reducible first | exact HB.out | apply below_alloc | apply pw_below_drewN | apply below_drew1 | refine below_set ?_ (IsS97.ge HI0.out) | refine below_set ?_ GE338.out | refine below_set ?_ GE345.out | refine below_set ?_ GE360.out) | exact HB.out)) hb)
         clear HO349; clear HI0; clear BK338; clear BK345; clear BK360; clear HK; clear HB; have HO349 := n0_; have HO356 := n1_; have HO359 := n2_; have HI0 := n3_; have BK338 := n4_; have BK345 := n5_; have BK360 := n6_; have HK := n7_; have HB := n8_; clear n0_ n1_ n2_ n3_ n4_ n5_ n6_ n7_ n8_; (try clear hb); (try clear hb2); (try clear hk); (try clear hi); (try clear ho0); (try clear ho1)
         refine hK.out _ _ ⟨(blk_cell BK345.out 0).trans rfl, (blk_cell BK345.out 1).trans rfl, (blk_cell BK345.out 2).trans rfl⟩ (fun hHeld => ?_)
         clear hK K
         refine norm_ (a' := ?_) ?_ ?_
         rotate_left
         · show Act.put _ (some 24) _ = _
           simp only [Act.put, List.setIfInBounds_toArray, List.set_cons_zero, List.set_cons_succ, i64_w, i32_w]
           rfl
         refine pU 9 (some 15) #[T,T,T,T,T,T,T,T,T,T,F,F,T,F,F] rfl rfl HT_.out ?_
         refine pU 10 (some 25) #[T,T,T,T,T,T,T,T,T,T,T,F,T,F,F] rfl rfl HT_.out ?_
         refine pU 11 (some 26) #[T,T,T,T,T,T,T,T,T,T,T,T,T,F,F] rfl rfl HT_.out ?_
         exact norm_ (by simp only [putAll, Act.put, List.setIfInBounds_toArray, List.set_cons_zero, List.set_cons_succ]) (hCont (.slice Ao19 t347.length co19, v355, v358, gb360) _ ⟨hHeld, (nR HO349.out), (nR HO356.out), (nR HO359.out), (nB BK338.out), (nB BK345.out), (nB BK360.out), GW360.out, GE360.out, NB0_360.out, NB360_0.out, NB338_360.out, NB360_338.out, NB345_360.out, NB360_345.out, (by repeat (first | (with_reducible first | exact HI0.out | apply IsS97.alloc | apply IsS97.drewN | apply IsS97.drew | apply IsS97.set_1 | apply IsS97.set_2 | refine IsS97.far ?_ NB0_338.out _ | refine IsS97.far ?_ NB0_345.out _ | refine IsS97.far ?_ NB0_360.out _) | exact HI0.out)), (by repeat (first | (with_reducible first | exact HK.out | apply KeepBut.set_ | apply keep_drewN | apply keep_drew | apply keep_alloc | refine keep_far ?_ GW338.out _ | refine keep_far ?_ GW345.out _ | refine keep_far ?_ GW360.out _) | exact HK.out)), (by repeat (first | (with_reducible first | exact HB.out | apply below_alloc | apply pw_below_drewN | apply below_drew1 | refine below_set ?_ (IsS97.ge HI0.out) | refine below_set ?_ GE338.out | refine below_set ?_ GE345.out | refine below_set ?_ GE360.out) | exact HB.out))⟩)
     · skip
       refine box_step ?hg (N := 6) ?hd (cs := #[.int .i64 0, .int .i64 0, .slice none 0 0]) (t := 29) ?hr ?_; (case hd => rfl); (case hg => rfl); (case hr => first | (go_simp; done) | (go_simp; rfl))
       intro gb360 hg w17 hbox hb
       have n0_ := Aside0.mk (IsS97.below (by repeat (first | (with_reducible first | exact HI0.out | apply IsS97.alloc | apply IsS97.drewN | apply IsS97.drew | apply IsS97.set_1 | apply IsS97.set_2 | refine IsS97.far ?_ NB0_338.out _ | refine IsS97.far ?_ NB0_345.out _) | exact HI0.out)) hb)
       have n1_ := Aside0.mk (blk_below (g := gb338) (o := .cells #[.int .i64 0, .int .i64 0, .slice none 0 0] 29 (0, 0)) (nB BK338.out) hb)
       have n2_ := Aside0.mk (blk_below (g := gb345) (o := .cells #[.int .i64 (wrap64 (1 + t339)), .int .i64 (wrap64 (1 + t342)), .slice none 0 0] 29 (0, 0)) (nB BK345.out) hb)
       have n3_ := Aside0.mk (KeepBut.trans (by repeat (first | (with_reducible first | exact HK.out | apply KeepBut.set_ | apply keep_drewN | apply keep_drew | apply keep_alloc | refine keep_far ?_ GW338.out _ | refine keep_far ?_ GW345.out _) | exact HK.out)) (KeepBut.of_below hb g none) (.inl rfl))
       have n4_ := Aside0.mk (below_step (by repeat (first | (with_reducible first | exact HB.out | apply below_alloc | apply pw_below_drewN | apply below_drew1 | refine below_set ?_ (IsS97.ge HI0.out) | refine below_set ?_ GE338.out | refine below_set ?_ GE345.out) | exact HB.out)) hb)
       have n5_ := Aside0.mk (hbox)
       have n6_ := Aside0.mk ((by rw [hg]; exact (keep_size (w := w) (g := g) (row := none) (by repeat (first | (with_reducible first | exact HK.out | apply KeepBut.set_ | apply keep_drewN | apply keep_drew | apply keep_alloc | refine keep_far ?_ GW338.out _ | refine keep_far ?_ GW345.out _) | exact HK.out))) : w.heap.size ≤ gb360))
       have n7_ := Aside0.mk ((Nat.le_trans HW0.out (by rw [hg]; exact (keep_size (w := w) (g := g) (row := none) (by repeat (first | (with_reducible first | exact HK.out | apply KeepBut.set_ | apply keep_drewN | apply keep_drew | apply keep_alloc | refine keep_far ?_ GW338.out _ | refine keep_far ?_ GW345.out _) | exact HK.out))) : w.heap.size ≤ gb360) : w0.heap.size ≤ gb360))
       have n8_ := Aside0.mk ((by rw [hg]; exact Nat.ne_of_lt (blk_lt (g := gb338) (o := .cells #[.int .i64 0, .int .i64 0, .slice none 0 0] 29 (0, 0)) (nB BK338.out)) : gb338 ≠ gb360))
       have n9_ := Aside0.mk ((by rw [hg]; exact Nat.ne_of_gt (blk_lt (g := gb338) (o := .cells #[.int .i64 0, .int .i64 0, .slice none 0 0] 29 (0, 0)) (nB BK338.out)) : gb360 ≠ gb338))
       have n10_ := Aside0.mk ((by rw [hg]; exact Nat.ne_of_lt (blk_lt (g := gb345) (o := .cells #[.int .i64 (wrap64 (1 + t339)), .int .i64 (wrap64 (1 + t342)), .slice none 0 0] 29 (0, 0)) (nB BK345.out)) : gb345 ≠ gb360))
       have n11_ := Aside0.mk ((by rw [hg]; exact Nat.ne_of_gt (blk_lt (g := gb345) (o := .cells #[.int .i64 (wrap64 (1 + t339)), .int .i64 (wrap64 (1 + t342)), .slice none 0 0] 29 (0, 0)) (nB BK345.out)) : gb360 ≠ gb345))
       have n12_ := Aside0.mk ((by rw [hg]; exact Nat.ne_of_lt (IsS97.lt (show IsS97 w0 _ g s0_0 t343 t344 from by repeat (first | (with_reducible first | exact HI0.out | apply IsS97.alloc | apply IsS97.drewN | apply IsS97.drew | apply IsS97.set_1 | apply IsS97.set_2 | refine IsS97.far ?_ NB0_338.out _ | refine IsS97.far ?_ NB0_345.out _) | exact HI0.out))) : g ≠ gb360))
       have n13_ := Aside0.mk ((by rw [hg]; exact Nat.ne_of_gt (IsS97.lt (show IsS97 w0 _ g s0_0 t343 t344 from by repeat (first | (with_reducible first | exact HI0.out | apply IsS97.alloc | apply IsS97.drewN | apply IsS97.drew | apply IsS97.set_1 | apply IsS97.set_2 | refine IsS97.far ?_ NB0_338.out _ | refine IsS97.far ?_ NB0_345.out _) | exact HI0.out))) : gb360 ≠ g))
       clear HI0; clear BK338; clear BK345; clear HK; clear HB; have HI0 := n0_; have BK338 := n1_; have BK345 := n2_; have HK := n3_; have HB := n4_; have BK360 := n5_; have GW360 := n6_; have GE360 := n7_; have NB338_360 := n8_; have NB360_338 := n9_; have NB345_360 := n10_; have NB360_345 := n11_; have NB0_360 := n12_; have NB360_0 := n13_; clear n0_ n1_ n2_ n3_ n4_ n5_ n6_ n7_ n8_ n9_ n10_ n11_ n12_ n13_; clear hb hbox hg
       refine hK.out _ _ ⟨(blk_cell BK345.out 0).trans rfl, (blk_cell BK345.out 1).trans rfl, (blk_cell BK345.out 2).trans rfl⟩ (fun hHeld => ?_)
       clear hK K
       refine norm_ (a' := ?_) ?_ ?_
       rotate_left
       · show Act.put _ (some 6) _ = _
         simp only [Act.put, List.setIfInBounds_toArray, List.set_cons_zero, List.set_cons_succ, i64_w, i32_w]
         rfl
       refine one_ (i := 7) (N := some 23) #[T,T,T,T,T,T,T,T,F,F,F,F,T,F,F] rfl rfl (one_of HT_.out (by kernel_rfl)) (by decide) (fun K hK => ?_)
       refine goes_ Try.func65 (by kernel_rfl) rfl #[.pointer (some ⟨g, 0, none⟩), .int .i64 (wrap64 (2 + t346)), .int .i64 (wrap64 (1 + t342))] (by rfl) rfl rfl (by (try simp only [List.map_toArray, List.map_cons, List.map_nil]); first | done | rfl | (simp only [List.length_drop, List.length_take]; rfl)) ?_
       with_reducible refine (spec_l14DrawSales.calls k g s0_0 t343 t344 (wrap64 (2 + t346)) (wrap64 (1 + t342)) t347 t350 t351 w0 _ ?side1 ?side2 A6.out).mono ?_
       (case side1 => repeat (first | (with_reducible first | exact HI0.out | apply IsS97.alloc | apply IsS97.drewN | apply IsS97.drew | apply IsS97.set_1 | apply IsS97.set_2 | refine IsS97.far ?_ NB0_338.out _ | refine IsS97.far ?_ NB0_345.out _ | refine IsS97.far ?_ NB0_360.out _) | exact HI0.out))
       (case side2 => repeat (first | (with_reducible first | exact HB.out | apply below_alloc | apply pw_below_drewN | apply below_drew1 | refine below_set ?_ (IsS97.ge HI0.out) | refine below_set ?_ GE338.out | refine below_set ?_ GE345.out | refine below_set ?_ GE360.out) | exact HB.out))
       rintro e w18 ⟨v348, rfl, ho0, hi, hb, hk⟩
       refine ⟨_, rfl, ?_⟩
       have n0_ := Aside0.mk (KeepBut.blk hk (g' := gb338) (o := .cells #[.int .i64 0, .int .i64 0, .slice none 0 0] 29 (0, 0)) (nB BK338.out) NB338_0.out (by simp))
       have n1_ := Aside0.mk (KeepBut.blk hk (g' := gb345) (o := .cells #[.int .i64 (wrap64 (1 + t339)), .int .i64 (wrap64 (1 + t342)), .slice none 0 0] 29 (0, 0)) (nB BK345.out) NB345_0.out (by simp))
       have n2_ := Aside0.mk (KeepBut.blk hk (g' := gb360) (o := .cells #[.int .i64 0, .int .i64 0, .slice none 0 0] 29 (0, 0)) (nB BK360.out) NB360_0.out (by simp))
       have n3_ := Aside0.mk (Kd.R_lower ho0 (keep_size (w := w) (g := g) (row := none) (by repeat (first | (with_reducible first | exact HK.out | apply KeepBut.set_ | apply keep_drewN | apply keep_drew | apply keep_alloc | refine keep_far ?_ GW338.out _ | refine keep_far ?_ GW345.out _ | refine keep_far ?_ GW360.out _) | exact HK.out))))
       have n4_ := Aside0.mk (KeepBut.trans (by repeat (first | (with_reducible first | exact HK.out | apply KeepBut.set_ | apply keep_drewN | apply keep_drew | apply keep_alloc | refine keep_far ?_ GW338.out _ | refine keep_far ?_ GW345.out _ | refine keep_far ?_ GW360.out _) | exact HK.out)) hk (.inl rfl))
       have n5_ := Aside0.mk (hb)
       have n6_ := Aside0.mk (hi)
       clear BK338; clear BK345; clear BK360; clear HK; clear HB; clear HI0; have BK338 := n0_; have BK345 := n1_; have BK360 := n2_; have HO349 := n3_; have HK := n4_; have HB := n5_; have HI0 := n6_; clear n0_ n1_ n2_ n3_ n4_ n5_ n6_; (try clear hb); (try clear hb2); (try clear hk); (try clear hi); (try clear ho0)
       obtain ⟨Ao19, co19, eo19⟩ := Kd.R_slice HO349.out
       (first | subst eo19 | (injection eo19 with f1_ f2_ f3_; have f4_ := f1_.symm; have f5_ := f3_.symm; clear f1_ f2_ f3_; subst f4_; subst f5_))
       refine hK.out _ _ ⟨(blk_cell BK345.out 0).trans rfl, (blk_cell BK345.out 1).trans rfl, (blk_cell BK345.out 2).trans rfl⟩ (fun hHeld => ?_)
       clear hK K
       refine norm_ (a' := ?_) ?_ ?_
       rotate_left
       · show Act.put _ (some 23) _ = _
         simp only [Act.put, List.setIfInBounds_toArray, List.set_cons_zero, List.set_cons_succ, i64_w, i32_w]
         rfl
       refine one_ (i := 8) (N := some 24) #[T,T,T,T,T,T,T,T,T,F,F,F,T,F,F] rfl rfl (one_of HT_.out (by kernel_rfl)) (by decide) (fun K hK => ?_)
       refine goes_ Try.func40 (by kernel_rfl) rfl #[.agg #[.int .i64 (wrap64 (1 + t339)), .int .i64 (wrap64 (1 + t342)), .slice none 0 0], .slice Ao19 t347.length co19] (by rfl) rfl rfl (by (try simp only [List.map_toArray, List.map_cons, List.map_nil]); first | done | rfl | (simp only [List.length_drop, List.length_take]; rfl)) ?_
       refine (spec_PlaySales.calls k (wrap64 (1 + t339)) (wrap64 (1 + t342)) _ _ ([] : List (S66)) _ _ t347 t352 t353 t354 t357 _ ?side1 ?side2 ?side3 ?side4 A7.out).mono ?_
       (case side1 => exact Kd.C_nil _ _)
       (case side2 => exact Nat.le_refl _)
       (case side3 => repeat (first | exact (Kd.R_reads' HO349.out).2.2 | (with_reducible refine Kd.C_alloc ?_ _) | (with_reducible refine Kd.C_drewN ?_ _) | (with_reducible refine Kd.C_drew ?_)))
       (case side4 => exact (Kd.R_reads' HO349.out).2.1)
       rintro e w20 ⟨v355, v358, rfl, ho0, ho1, hb⟩
       refine ⟨_, rfl, ?_⟩
       have n0_ := Aside0.mk (Kd.R_below (nR HO349.out) hb)
       have n1_ := Aside0.mk (Kd.R_lower ho0 (keep_size (w := w) (g := g) (row := none) (by repeat (first | (with_reducible first | exact HK.out | apply KeepBut.set_ | apply keep_drewN | apply keep_drew | apply keep_alloc | refine keep_far ?_ GW338.out _ | refine keep_far ?_ GW345.out _ | refine keep_far ?_ GW360.out _) | exact HK.out))))
       have n2_ := Aside0.mk (Kd.R_lower ho1 (keep_size (w := w) (g := g) (row := none) (by repeat (first | (with_reducible first | exact HK.out | apply KeepBut.set_ | apply keep_drewN | apply keep_drew | apply keep_alloc | refine keep_far ?_ GW338.out _ | refine keep_far ?_ GW345.out _ | refine keep_far ?_ GW360.out _) | exact HK.out))))
       have n3_ := Aside0.mk (IsS97.below (by repeat (first | (with_reducible first | exact HI0.out | apply IsS97.alloc | apply IsS97.drewN | apply IsS97.drew | apply IsS97.set_1 | apply IsS97.set_2 | refine IsS97.far ?_ NB0_338.out _ | refine IsS97.far ?_ NB0_345.out _ | refine IsS97.far ?_ NB0_360.out _) | exact HI0.out)) hb)
       have n4_ := Aside0.mk (blk_below (g := gb338) (o := .cells #[.int .i64 0, .int .i64 0, .slice none 0 0] 29 (0, 0)) (nB BK338.out) hb)
       have n5_ := Aside0.mk (blk_below (g := gb345) (o := .cells #[.int .i64 (wrap64 (1 + t339)), .int .i64 (wrap64 (1 + t342)), .slice none 0 0] 29 (0, 0)) (nB BK345.out) hb)
       have n6_ := Aside0.mk (blk_below (g := gb360) (o := .cells #[.int .i64 0, .int .i64 0, .slice none 0 0] 29 (0, 0)) (nB BK360.out) hb)
       have n7_ := Aside0.mk (KeepBut.trans (by repeat (first | (with_reducible first | exact HK.out | apply KeepBut.set_ | apply keep_drewN | apply keep_drew | apply keep_alloc | refine keep_far ?_ GW338.out _ | refine keep_far ?_ GW345.out _ | refine keep_far ?_ GW360.out _) | exact HK.out)) (KeepBut.of_below hb g none) (.inl rfl))
       have n8_ := Aside0.mk (below_step (by repeat (first | (with_reducible first | exact HB.out | apply below_alloc | apply pw_below_drewN | apply below_drew1 | refine below_set ?_ (IsS97.ge HI0.out) | refine below_set ?_ GE338.out | refine below_set ?_ GE345.out | refine below_set ?_ GE360.out) | exact HB.out)) hb)
       clear HO349; clear HI0; clear BK338; clear BK345; clear BK360; clear HK; clear HB; have HO349 := n0_; have HO356 := n1_; have HO359 := n2_; have HI0 := n3_; have BK338 := n4_; have BK345 := n5_; have BK360 := n6_; have HK := n7_; have HB := n8_; clear n0_ n1_ n2_ n3_ n4_ n5_ n6_ n7_ n8_; (try clear hb); (try clear hb2); (try clear hk); (try clear hi); (try clear ho0); (try clear ho1)
       refine hK.out _ _ ⟨(blk_cell BK345.out 0).trans rfl, (blk_cell BK345.out 1).trans rfl, (blk_cell BK345.out 2).trans rfl⟩ (fun hHeld => ?_)
       clear hK K
       refine norm_ (a' := ?_) ?_ ?_
       rotate_left
       · show Act.put _ (some 24) _ = _
         simp only [Act.put, List.setIfInBounds_toArray, List.set_cons_zero, List.set_cons_succ, i64_w, i32_w]
         rfl
       refine pU 9 (some 15) #[T,T,T,T,T,T,T,T,T,T,F,F,T,F,F] rfl rfl HT_.out ?_
       refine pU 10 (some 25) #[T,T,T,T,T,T,T,T,T,T,T,F,T,F,F] rfl rfl HT_.out ?_
       refine pU 11 (some 26) #[T,T,T,T,T,T,T,T,T,T,T,T,T,F,F] rfl rfl HT_.out ?_
       exact norm_ (by simp only [putAll, Act.put, List.setIfInBounds_toArray, List.set_cons_zero, List.set_cons_succ]) (hCont (.slice Ao19 t347.length co19, v355, v358, gb360) _ ⟨hHeld, (nR HO349.out), (nR HO356.out), (nR HO359.out), (nB BK338.out), (nB BK345.out), (nB BK360.out), GW360.out, GE360.out, NB0_360.out, NB360_0.out, NB338_360.out, NB360_338.out, NB345_360.out, NB360_345.out, (by repeat (first | (with_reducible first | exact HI0.out | apply IsS97.alloc | apply IsS97.drewN | apply IsS97.drew | apply IsS97.set_1 | apply IsS97.set_2 | refine IsS97.far ?_ NB0_338.out _ | refine IsS97.far ?_ NB0_345.out _ | refine IsS97.far ?_ NB0_360.out _) | exact HI0.out)), (by repeat (first | (with_reducible first | exact HK.out | apply KeepBut.set_ | apply keep_drewN | apply keep_drew | apply keep_alloc | refine keep_far ?_ GW338.out _ | refine keep_far ?_ GW345.out _ | refine keep_far ?_ GW360.out _) | exact HK.out)), (by repeat (first | (with_reducible first | exact HB.out | apply below_alloc | apply pw_below_drewN | apply below_drew1 | refine below_set ?_ (IsS97.ge HI0.out) | refine below_set ?_ GE338.out | refine below_set ?_ GE345.out | refine below_set ?_ GE360.out) | exact HB.out))⟩)
   · skip
     refine box_step ?hg (N := 6) ?hd (cs := #[.int .i64 0, .int .i64 0, .slice none 0 0]) (t := 29) ?hr ?_; (case hd => rfl); (case hg => rfl); (case hr => first | (go_simp; done) | (go_simp; rfl))
     intro gb360 hg w17 hbox hb
     have n0_ := Aside0.mk (IsS97.below (by repeat (first | (with_reducible first | exact HI0.out | apply IsS97.alloc | apply IsS97.drewN | apply IsS97.drew | apply IsS97.set_1 | apply IsS97.set_2 | refine IsS97.far ?_ NB0_338.out _ | refine IsS97.far ?_ NB0_345.out _) | exact HI0.out)) hb)
     have n1_ := Aside0.mk (blk_below (g := gb338) (o := .cells #[.int .i64 0, .int .i64 0, .slice none 0 0] 29 (0, 0)) (nB BK338.out) hb)
     have n2_ := Aside0.mk (blk_below (g := gb345) (o := .cells #[.int .i64 (wrap64 (1 + t339)), .int .i64 (wrap64 (1 + t342)), .slice none 0 0] 29 (0, 0)) (nB BK345.out) hb)
     have n3_ := Aside0.mk (KeepBut.trans (by repeat (first | (with_reducible first | exact HK.out | apply KeepBut.set_ | apply keep_drewN | apply keep_drew | apply keep_alloc | refine keep_far ?_ GW338.out _ | refine keep_far ?_ GW345.out _) | exact HK.out)) (KeepBut.of_below hb g none) (.inl rfl))
     have n4_ := Aside0.mk (below_step (by repeat (first | (with_reducible first | exact HB.out | apply below_alloc | apply pw_below_drewN | apply below_drew1 | refine below_set ?_ (IsS97.ge HI0.out) | refine below_set ?_ GE338.out | refine below_set ?_ GE345.out) | exact HB.out)) hb)
     have n5_ := Aside0.mk (hbox)
     have n6_ := Aside0.mk ((by rw [hg]; exact (keep_size (w := w) (g := g) (row := none) (by repeat (first | (with_reducible first | exact HK.out | apply KeepBut.set_ | apply keep_drewN | apply keep_drew | apply keep_alloc | refine keep_far ?_ GW338.out _ | refine keep_far ?_ GW345.out _) | exact HK.out))) : w.heap.size ≤ gb360))
     have n7_ := Aside0.mk ((Nat.le_trans HW0.out (by rw [hg]; exact (keep_size (w := w) (g := g) (row := none) (by repeat (first | (with_reducible first | exact HK.out | apply KeepBut.set_ | apply keep_drewN | apply keep_drew | apply keep_alloc | refine keep_far ?_ GW338.out _ | refine keep_far ?_ GW345.out _) | exact HK.out))) : w.heap.size ≤ gb360) : w0.heap.size ≤ gb360))
     have n8_ := Aside0.mk ((by rw [hg]; exact Nat.ne_of_lt (blk_lt (g := gb338) (o := .cells #[.int .i64 0, .int .i64 0, .slice none 0 0] 29 (0, 0)) (nB BK338.out)) : gb338 ≠ gb360))
     have n9_ := Aside0.mk ((by rw [hg]; exact Nat.ne_of_gt (blk_lt (g := gb338) (o := .cells #[.int .i64 0, .int .i64 0, .slice none 0 0] 29 (0, 0)) (nB BK338.out)) : gb360 ≠ gb338))
     have n10_ := Aside0.mk ((by rw [hg]; exact Nat.ne_of_lt (blk_lt (g := gb345) (o := .cells #[.int .i64 (wrap64 (1 + t339)), .int .i64 (wrap64 (1 + t342)), .slice none 0 0] 29 (0, 0)) (nB BK345.out)) : gb345 ≠ gb360))
     have n11_ := Aside0.mk ((by rw [hg]; exact Nat.ne_of_gt (blk_lt (g := gb345) (o := .cells #[.int .i64 (wrap64 (1 + t339)), .int .i64 (wrap64 (1 + t342)), .slice none 0 0] 29 (0, 0)) (nB BK345.out)) : gb360 ≠ gb345))
     have n12_ := Aside0.mk ((by rw [hg]; exact Nat.ne_of_lt (IsS97.lt (show IsS97 w0 _ g s0_0 t343 t344 from by repeat (first | (with_reducible first | exact HI0.out | apply IsS97.alloc | apply IsS97.drewN | apply IsS97.drew | apply IsS97.set_1 | apply IsS97.set_2 | refine IsS97.far ?_ NB0_338.out _ | refine IsS97.far ?_ NB0_345.out _) | exact HI0.out))) : g ≠ gb360))
     have n13_ := Aside0.mk ((by rw [hg]; exact Nat.ne_of_gt (IsS97.lt (show IsS97 w0 _ g s0_0 t343 t344 from by repeat (first | (with_reducible first | exact HI0.out | apply IsS97.alloc | apply IsS97.drewN | apply IsS97.drew | apply IsS97.set_1 | apply IsS97.set_2 | refine IsS97.far ?_ NB0_338.out _ | refine IsS97.far ?_ NB0_345.out _) | exact HI0.out))) : gb360 ≠ g))
     clear HI0; clear BK338; clear BK345; clear HK; clear HB; have HI0 := n0_; have BK338 := n1_; have BK345 := n2_; have HK := n3_; have HB := n4_; have BK360 := n5_; have GW360 := n6_; have GE360 := n7_; have NB338_360 := n8_; have NB360_338 := n9_; have NB345_360 := n10_; have NB360_345 := n11_; have NB0_360 := n12_; have NB360_0 := n13_; clear n0_ n1_ n2_ n3_ n4_ n5_ n6_ n7_ n8_ n9_ n10_ n11_ n12_ n13_; clear hb hbox hg
     refine hK.out _ _ ⟨(blk_cell BK345.out 0).trans rfl, (blk_cell BK345.out 1).trans rfl, (blk_cell BK345.out 2).trans rfl⟩ (fun hHeld => ?_)
     clear hK K
     refine norm_ (a' := ?_) ?_ ?_
     rotate_left
     · show Act.put _ (some 6) _ = _
       simp only [Act.put, List.setIfInBounds_toArray, List.set_cons_zero, List.set_cons_succ, i64_w, i32_w]
       rfl
     refine one_ (i := 3) (N := some 19) #[T,T,T,T,F,T,T,F,F,F,F,F,T,F,F] rfl rfl (one_of HT_.out (by kernel_rfl)) (by decide) (fun K hK => ?_)
     refine goes_ Try.func66 (by kernel_rfl) rfl #[.slice A1 l1.length c1, .int .i64 16] (by rfl) rfl rfl (by (try simp only [List.map_toArray, List.map_cons, List.map_nil]); first | done | rfl | (simp only [List.length_drop, List.length_take]; rfl)) ?_
     with_reducible refine (spec_l01Size.calls _ _ l1 16 t346 _ ?side1 ?side2 A5.out).mono ?_
     (case side1 => exact Kd.C_keep 0 HR1.out (by repeat (first | (with_reducible first | exact HK.out | apply KeepBut.set_ | apply keep_drewN | apply keep_drew | apply keep_alloc | refine keep_far ?_ GW338.out _ | refine keep_far ?_ GW345.out _ | refine keep_far ?_ GW360.out _) | exact HK.out)) hf1)
     (case side2 => exact HC1.out)
     rintro e w' ⟨rfl, ⟨nd, rfl⟩⟩
     refine ⟨_, rfl, ?_⟩
     refine hK.out _ _ ⟨(blk_cell BK345.out 0).trans rfl, (blk_cell BK345.out 1).trans rfl, (blk_cell BK345.out 2).trans rfl⟩ (fun hHeld => ?_)
     clear hK K
     refine norm_ (a' := ?_) ?_ ?_
     rotate_left
     · show Act.put _ (some 19) _ = _
       simp only [Act.put, List.setIfInBounds_toArray, List.set_cons_zero, List.set_cons_succ, i64_w, i32_w]
       rfl
     refine pU 4 (some 20) #[T,T,T,T,T,T,T,F,F,F,F,F,T,F,F] rfl rfl HT_.out ?_
     refine one_ (i := 7) (N := some 23) #[T,T,T,T,T,T,T,T,F,F,F,F,T,F,F] rfl rfl (one_of HT_.out (by kernel_rfl)) (by decide) (fun K hK => ?_)
     refine goes_ Try.func65 (by kernel_rfl) rfl #[.pointer (some ⟨g, 0, none⟩), .int .i64 (wrap64 (2 + t346)), .int .i64 (wrap64 (1 + t342))] (by rfl) rfl rfl (by (try simp only [List.map_toArray, List.map_cons, List.map_nil]); first | done | rfl | (simp only [List.length_drop, List.length_take]; rfl)) ?_
     with_reducible refine (spec_l14DrawSales.calls k g s0_0 t343 t344 (wrap64 (2 + t346)) (wrap64 (1 + t342)) t347 t350 t351 w0 _ ?side1 ?side2 A6.out).mono ?_
     (case side1 => repeat (first | (with_reducible first | exact HI0.out | apply IsS97.alloc | apply IsS97.drewN | apply IsS97.drew | apply IsS97.set_1 | apply IsS97.set_2 | refine IsS97.far ?_ NB0_338.out _ | refine IsS97.far ?_ NB0_345.out _ | refine IsS97.far ?_ NB0_360.out _) | exact HI0.out))
     (case side2 => repeat (first | (with_reducible first | exact HB.out | apply below_alloc | apply pw_below_drewN | apply below_drew1 | refine below_set ?_ (IsS97.ge HI0.out) | refine below_set ?_ GE338.out | refine below_set ?_ GE345.out | refine below_set ?_ GE360.out) | exact HB.out))
     rintro e w18 ⟨v348, rfl, ho0, hi, hb, hk⟩
     refine ⟨_, rfl, ?_⟩
     have n0_ := Aside0.mk (KeepBut.blk hk (g' := gb338) (o := .cells #[.int .i64 0, .int .i64 0, .slice none 0 0] 29 (0, 0)) (nB BK338.out) NB338_0.out (by simp))
     have n1_ := Aside0.mk (KeepBut.blk hk (g' := gb345) (o := .cells #[.int .i64 (wrap64 (1 + t339)), .int .i64 (wrap64 (1 + t342)), .slice none 0 0] 29 (0, 0)) (nB BK345.out) NB345_0.out (by simp))
     have n2_ := Aside0.mk (KeepBut.blk hk (g' := gb360) (o := .cells #[.int .i64 0, .int .i64 0, .slice none 0 0] 29 (0, 0)) (nB BK360.out) NB360_0.out (by simp))
     have n3_ := Aside0.mk (Kd.R_lower ho0 (keep_size (w := w) (g := g) (row := none) (by repeat (first | (with_reducible first | exact HK.out | apply KeepBut.set_ | apply keep_drewN | apply keep_drew | apply keep_alloc | refine keep_far ?_ GW338.out _ | refine keep_far ?_ GW345.out _ | refine keep_far ?_ GW360.out _) | exact HK.out))))
     have n4_ := Aside0.mk (KeepBut.trans (by repeat (first | (with_reducible first | exact HK.out | apply KeepBut.set_ | apply keep_drewN | apply keep_drew | apply keep_alloc | refine keep_far ?_ GW338.out _ | refine keep_far ?_ GW345.out _ | refine keep_far ?_ GW360.out _) | exact HK.out)) hk (.inl rfl))
     have n5_ := Aside0.mk (hb)
     have n6_ := Aside0.mk (hi)
     clear BK338; clear BK345; clear BK360; clear HK; clear HB; clear HI0; have BK338 := n0_; have BK345 := n1_; have BK360 := n2_; have HO349 := n3_; have HK := n4_; have HB := n5_; have HI0 := n6_; clear n0_ n1_ n2_ n3_ n4_ n5_ n6_; (try clear hb); (try clear hb2); (try clear hk); (try clear hi); (try clear ho0)
     obtain ⟨Ao19, co19, eo19⟩ := Kd.R_slice HO349.out
     (first | subst eo19 | (injection eo19 with f1_ f2_ f3_; have f4_ := f1_.symm; have f5_ := f3_.symm; clear f1_ f2_ f3_; subst f4_; subst f5_))
     refine hK.out _ _ ⟨(blk_cell BK345.out 0).trans rfl, (blk_cell BK345.out 1).trans rfl, (blk_cell BK345.out 2).trans rfl⟩ (fun hHeld => ?_)
     clear hK K
     refine norm_ (a' := ?_) ?_ ?_
     rotate_left
     · show Act.put _ (some 23) _ = _
       simp only [Act.put, List.setIfInBounds_toArray, List.set_cons_zero, List.set_cons_succ, i64_w, i32_w]
       rfl
     refine one_ (i := 8) (N := some 24) #[T,T,T,T,T,T,T,T,T,F,F,F,T,F,F] rfl rfl (one_of HT_.out (by kernel_rfl)) (by decide) (fun K hK => ?_)
     refine goes_ Try.func40 (by kernel_rfl) rfl #[.agg #[.int .i64 (wrap64 (1 + t339)), .int .i64 (wrap64 (1 + t342)), .slice none 0 0], .slice Ao19 t347.length co19] (by rfl) rfl rfl (by (try simp only [List.map_toArray, List.map_cons, List.map_nil]); first | done | rfl | (simp only [List.length_drop, List.length_take]; rfl)) ?_
     refine (spec_PlaySales.calls k (wrap64 (1 + t339)) (wrap64 (1 + t342)) _ _ ([] : List (S66)) _ _ t347 t352 t353 t354 t357 _ ?side1 ?side2 ?side3 ?side4 A7.out).mono ?_
     (case side1 => exact Kd.C_nil _ _)
     (case side2 => exact Nat.le_refl _)
     (case side3 => repeat (first | exact (Kd.R_reads' HO349.out).2.2 | (with_reducible refine Kd.C_alloc ?_ _) | (with_reducible refine Kd.C_drewN ?_ _) | (with_reducible refine Kd.C_drew ?_)))
     (case side4 => exact (Kd.R_reads' HO349.out).2.1)
     rintro e w20 ⟨v355, v358, rfl, ho0, ho1, hb⟩
     refine ⟨_, rfl, ?_⟩
     have n0_ := Aside0.mk (Kd.R_below (nR HO349.out) hb)
     have n1_ := Aside0.mk (Kd.R_lower ho0 (keep_size (w := w) (g := g) (row := none) (by repeat (first | (with_reducible first | exact HK.out | apply KeepBut.set_ | apply keep_drewN | apply keep_drew | apply keep_alloc | refine keep_far ?_ GW338.out _ | refine keep_far ?_ GW345.out _ | refine keep_far ?_ GW360.out _) | exact HK.out))))
     have n2_ := Aside0.mk (Kd.R_lower ho1 (keep_size (w := w) (g := g) (row := none) (by repeat (first | (with_reducible first | exact HK.out | apply KeepBut.set_ | apply keep_drewN | apply keep_drew | apply keep_alloc | refine keep_far ?_ GW338.out _ | refine keep_far ?_ GW345.out _ | refine keep_far ?_ GW360.out _) | exact HK.out))))
     have n3_ := Aside0.mk (IsS97.below (by repeat (first | (with_reducible first | exact HI0.out | apply IsS97.alloc | apply IsS97.drewN | apply IsS97.drew | apply IsS97.set_1 | apply IsS97.set_2 | refine IsS97.far ?_ NB0_338.out _ | refine IsS97.far ?_ NB0_345.out _ | refine IsS97.far ?_ NB0_360.out _) | exact HI0.out)) hb)
     have n4_ := Aside0.mk (blk_below (g := gb338) (o := .cells #[.int .i64 0, .int .i64 0, .slice none 0 0] 29 (0, 0)) (nB BK338.out) hb)
     have n5_ := Aside0.mk (blk_below (g := gb345) (o := .cells #[.int .i64 (wrap64 (1 + t339)), .int .i64 (wrap64 (1 + t342)), .slice none 0 0] 29 (0, 0)) (nB BK345.out) hb)
     have n6_ := Aside0.mk (blk_below (g := gb360) (o := .cells #[.int .i64 0, .int .i64 0, .slice none 0 0] 29 (0, 0)) (nB BK360.out) hb)
     have n7_ := Aside0.mk (KeepBut.trans (by repeat (first | (with_reducible first | exact HK.out | apply KeepBut.set_ | apply keep_drewN | apply keep_drew | apply keep_alloc | refine keep_far ?_ GW338.out _ | refine keep_far ?_ GW345.out _ | refine keep_far ?_ GW360.out _) | exact HK.out)) (KeepBut.of_below hb g none) (.inl rfl))
     have n8_ := Aside0.mk (below_step (by repeat (first | (with_reducible first | exact HB.out | apply below_alloc | apply pw_below_drewN | apply below_drew1 | refine below_set ?_ (IsS97.ge HI0.out) | refine below_set ?_ GE338.out | refine below_set ?_ GE345.out | refine below_set ?_ GE360.out) | exact HB.out)) hb)
     clear HO349; clear HI0; clear BK338; clear BK345; clear BK360; clear HK; clear HB; have HO349 := n0_; have HO356 := n1_; have HO359 := n2_; have HI0 := n3_; have BK338 := n4_; have BK345 := n5_; have BK360 := n6_; have HK := n7_; have HB := n8_; clear n0_ n1_ n2_ n3_ n4_ n5_ n6_ n7_ n8_; (try clear hb); (try clear hb2); (try clear hk); (try clear hi); (try clear ho0); (try clear ho1)
     refine hK.out _ _ ⟨(blk_cell BK345.out 0).trans rfl, (blk_cell BK345.out 1).trans rfl, (blk_cell BK345.out 2).trans rfl⟩ (fun hHeld => ?_)
     clear hK K
     refine norm_ (a' := ?_) ?_ ?_
     rotate_left
     · show Act.put _ (some 24) _ = _
       simp only [Act.put, List.setIfInBounds_toArray, List.set_cons_zero, List.set_cons_succ, i64_w, i32_w]
       rfl
     refine pU 9 (some 15) #[T,T,T,T,T,T,T,T,T,T,F,F,T,F,F] rfl rfl HT_.out ?_
     refine pU 10 (some 25) #[T,T,T,T,T,T,T,T,T,T,T,F,T,F,F] rfl rfl HT_.out ?_
     refine pU 11 (some 26) #[T,T,T,T,T,T,T,T,T,T,T,T,T,F,F] rfl rfl HT_.out ?_
     exact norm_ (by simp only [putAll, Act.put, List.setIfInBounds_toArray, List.set_cons_zero, List.set_cons_succ]) (hCont (.slice Ao19 t347.length co19, v355, v358, gb360) _ ⟨hHeld, (nR HO349.out), (nR HO356.out), (nR HO359.out), (nB BK338.out), (nB BK345.out), (nB BK360.out), GW360.out, GE360.out, NB0_360.out, NB360_0.out, NB338_360.out, NB360_338.out, NB345_360.out, NB360_345.out, (by repeat (first | (with_reducible first | exact HI0.out | apply IsS97.alloc | apply IsS97.drewN | apply IsS97.drew | apply IsS97.set_1 | apply IsS97.set_2 | refine IsS97.far ?_ NB0_338.out _ | refine IsS97.far ?_ NB0_345.out _ | refine IsS97.far ?_ NB0_360.out _) | exact HI0.out)), (by repeat (first | (with_reducible first | exact HK.out | apply KeepBut.set_ | apply keep_drewN | apply keep_drew | apply keep_alloc | refine keep_far ?_ GW338.out _ | refine keep_far ?_ GW345.out _ | refine keep_far ?_ GW360.out _) | exact HK.out)), (by repeat (first | (with_reducible first | exact HB.out | apply below_alloc | apply pw_below_drewN | apply below_drew1 | refine below_set ?_ (IsS97.ge HI0.out) | refine below_set ?_ GE338.out | refine below_set ?_ GE345.out | refine below_set ?_ GE360.out) | exact HB.out))⟩)
 rintro ⟨v348, v355, v358, gb360⟩ w21 ⟨hS_, h0_, h1_, h2_, h3_, h4_, h5_, h6_, h7_, h8_, h9_, h10_, h11_, h12_, h13_, h14_, h15_, h16_⟩
 have n0_ : Aside0 (Kd.R k56 56 w21 w.heap.size (fun _ => True) v348 t347) := ⟨h0_⟩
 have n1_ : Aside0 (Kd.R k66 66 w21 w.heap.size (fun _ => True) v355 t354) := ⟨h1_⟩
 have n2_ : Aside0 (Kd.R (Kd.int .i64) 3 w21 w.heap.size (fun _ => True) v358 t357) := ⟨h2_⟩
 have n3_ : Aside0 (w21.heap[gb338]? = some (.cells #[.int .i64 0, .int .i64 0, .slice none 0 0] 29 (0, 0))) := ⟨h3_⟩
 have n4_ : Aside0 (w21.heap[gb345]? = some (.cells #[.int .i64 (wrap64 (1 + t339)), .int .i64 (wrap64 (1 + t342)), .slice none 0 0] 29 (0, 0))) := ⟨h4_⟩
 have n5_ : Aside0 (w21.heap[gb360]? = some (.cells #[.int .i64 0, .int .i64 0, .slice none 0 0] 29 (0, 0))) := ⟨h5_⟩
 have n6_ : Aside0 (w.heap.size ≤ gb360) := ⟨h6_⟩
 have n7_ : Aside0 (w0.heap.size ≤ gb360) := ⟨h7_⟩
 have n8_ : Aside0 (g ≠ gb360) := ⟨h8_⟩
 have n9_ : Aside0 (gb360 ≠ g) := ⟨h9_⟩
 have n10_ : Aside0 (gb338 ≠ gb360) := ⟨h10_⟩
 have n11_ : Aside0 (gb360 ≠ gb338) := ⟨h11_⟩
 have n12_ : Aside0 (gb345 ≠ gb360) := ⟨h12_⟩
 have n13_ : Aside0 (gb360 ≠ gb345) := ⟨h13_⟩
 have n14_ : Aside0 (IsS97 w0 w21 g s0_0 t350 t351) := ⟨h14_⟩
 have n15_ : Aside0 (KeepBut w w21 g none) := ⟨h15_⟩
 have n16_ : Aside0 (Below w0.heap.size w0 w21) := ⟨h16_⟩
 clear BK338; clear BK345; clear HI0; clear HK; clear HB; clear h0_ h1_ h2_ h3_ h4_ h5_ h6_ h7_ h8_ h9_ h10_ h11_ h12_ h13_ h14_ h15_ h16_; have HO349 := n0_; have HO356 := n1_; have HO359 := n2_; have BK338 := n3_; have BK345 := n4_; have BK360 := n5_; have GW360 := n6_; have GE360 := n7_; have NB0_360 := n8_; have NB360_0 := n9_; have NB338_360 := n10_; have NB360_338 := n11_; have NB345_360 := n12_; have NB360_345 := n13_; have HI0 := n14_; have HK := n15_; have HB := n16_; clear n0_ n1_ n2_ n3_ n4_ n5_ n6_ n7_ n8_ n9_ n10_ n11_ n12_ n13_ n14_ n15_ n16_
 have hHeld : w21.cell? ⟨gb345, 0, none⟩ = some (.int .i64 (wrap64 (1 + t339))) ∧ w21.cell? ⟨gb345, 1, none⟩ = some (.int .i64 (wrap64 (1 + t342))) ∧ w21.cell? ⟨gb345, 2, none⟩ = some (.slice none 0 0) := hS_
 obtain ⟨Ao24, co24, eo24⟩ := Kd.R_slice HO356.out
 (first | subst eo24 | (injection eo24 with f1_ f2_ f3_; have f4_ := f1_.symm; have f5_ := f3_.symm; clear f1_ f2_ f3_; subst f4_; subst f5_))
 refine norm_ (a' := ?_) ?_ ?_
 rotate_left
 · simp only [putAll, Act.put, List.setIfInBounds_toArray, List.set_cons_zero, List.set_cons_succ]
   rfl
 refine one_ (i := 13) (N := none) #[T,T,T,T,T,T,T,T,T,T,T,T,T,T,F] rfl rfl (one_of HT_.out (by kernel_rfl)) (by decide) (fun K hK => ?_)
 have hs22 : w21.cell? ⟨gb360, 0, none⟩ = some (.int .i64 0) := (blk_cell BK360.out 0).trans rfl
 have hfs22 := blk_frozen BK360.out 0
 have hns22_0 := NB338_360.out; have hns22_1 := NB345_360.out; have hms22_0 := NB360_338.out; have hms22_1 := NB360_345.out
 have hs23 : w21.cell? ⟨gb360, 1, none⟩ = some (.int .i64 0) := (blk_cell BK360.out 1).trans rfl
 have hfs23 := blk_frozen BK360.out 1
 have hns23_0 := NB338_360.out; have hns23_1 := NB345_360.out; have hms23_0 := NB360_338.out; have hms23_1 := NB360_345.out
 have hs25 : w21.cell? ⟨gb360, 2, none⟩ = some (.slice none 0 0) := (blk_cell BK360.out 2).trans rfl
 have hfs25 := blk_frozen BK360.out 2
 have hns25_0 := NB338_360.out; have hns25_1 := NB345_360.out; have hms25_0 := NB360_338.out; have hms25_1 := NB360_345.out
 refine skip_ (w1 := ?_) (by rfl) rfl ?_ ?_
 rotate_left
 · go_simp; rfl
 refine hK.out _ _ ⟨((cell_far (p := ⟨gb360, _, none⟩) NB345_360.out _).trans (((cell_far (p := ⟨gb360, _, none⟩) NB345_360.out _).trans (((cell_far (p := ⟨gb360, _, none⟩) NB345_360.out _).trans (hHeld.1)))))), ((cell_far (p := ⟨gb360, _, none⟩) NB345_360.out _).trans (((cell_far (p := ⟨gb360, _, none⟩) NB345_360.out _).trans (((cell_far (p := ⟨gb360, _, none⟩) NB345_360.out _).trans (hHeld.2.1)))))), ((cell_far (p := ⟨gb360, _, none⟩) NB345_360.out _).trans (((cell_far (p := ⟨gb360, _, none⟩) NB345_360.out _).trans (((cell_far (p := ⟨gb360, _, none⟩) NB345_360.out _).trans (hHeld.2.2))))))⟩ (fun hHeld => ?_)
 clear hK K
 refine pU 14 (some 7) #[T,T,T,T,T,T,T,T,T,T,T,T,T,T,T] rfl rfl HT_.out ?_
 refine done_ (done_of HT_.out (by kernel_rfl)) ?_
 have hnb26 := NB360_338.out; have hnc26 := NB338_360.out; have hnb27 := NB360_345.out; have hnc27 := NB345_360.out; have hnb28 := NB360_0.out; have hnc28 := NB0_360.out
 have hcz29_0 : w21.cell? ⟨gb360, 0, none⟩ = some (.int .i64 0) := (blk_cell BK360.out 0).trans rfl
 have hcz29_1 : w21.cell? ⟨gb360, 1, none⟩ = some (.int .i64 0) := (blk_cell BK360.out 1).trans rfl
 have hcz29_2 : w21.cell? ⟨gb360, 2, none⟩ = some (.slice none 0 0) := (blk_cell BK360.out 2).trans rfl
 have hfz29_0 := blk_frozen BK360.out 0
 have hfz29_1 := blk_frozen BK360.out 1
 have hfz29_2 := blk_frozen BK360.out 2
 have hnb30 := NB338_0.out; have hnc30 := NB0_338.out
 have hcz31_0 : w21.cell? ⟨gb338, 0, none⟩ = some (.int .i64 0) := (blk_cell BK338.out 0).trans rfl
 have hcz31_1 : w21.cell? ⟨gb338, 1, none⟩ = some (.int .i64 0) := (blk_cell BK338.out 1).trans rfl
 have hcz31_2 : w21.cell? ⟨gb338, 2, none⟩ = some (.slice none 0 0) := (blk_cell BK338.out 2).trans rfl
 have hfz31_0 := blk_frozen BK338.out 0
 have hfz31_1 := blk_frozen BK338.out 1
 have hfz31_2 := blk_frozen BK338.out 2
 try go_wp2
 refine bodyPost_ret (results_cell_row rfl _ _ gb338 29 #[.int .i64 t352, .int .i64 t353, .slice Ao24 t354.length co24] (0, 0) _ rfl (by (with_reducible repeat (first | refine blk_drewN ?_ _ | refine blk_drew ?_ | refine blk_alloc ?_ _)); refine blk_put (cs := #[.int .i64 t352, .int .i64 t353, .slice none 0 0]) ?_ 2 _ rfl; (with_reducible repeat (first | refine blk_drewN ?_ _ | refine blk_drew ?_ | refine blk_alloc ?_ _)); refine blk_put (cs := #[.int .i64 t352, .int .i64 0, .slice none 0 0]) ?_ 1 _ rfl; (with_reducible repeat (first | refine blk_drewN ?_ _ | refine blk_drew ?_ | refine blk_alloc ?_ _)); refine blk_put (cs := #[.int .i64 0, .int .i64 0, .slice none 0 0]) ?_ 0 _ rfl; (with_reducible repeat (first | refine blk_drewN ?_ _ | refine blk_drew ?_ | refine blk_alloc ?_ _)); refine blk_far ?_ NB338_360.out _; (with_reducible repeat (first | refine blk_drewN ?_ _ | refine blk_drew ?_ | refine blk_alloc ?_ _)); refine blk_far ?_ NB338_360.out _; (with_reducible repeat (first | refine blk_drewN ?_ _ | refine blk_drew ?_ | refine blk_alloc ?_ _)); refine blk_far ?_ NB338_360.out _; (with_reducible repeat (first | refine blk_drewN ?_ _ | refine blk_drew ?_ | refine blk_alloc ?_ _)); exact BK338.out) Try.underlying29 rfl (by kernel_rfl)) rfl ?_
 exact ⟨_, by first | rfl | (simp [errW_none, errW_some] <;> rfl) | (simp [*, errW_none, errW_some] <;> first | rfl | (simp [wrap64]; done)), by (with_reducible repeat (first | apply Kd.R_alloc | apply Kd.R_drewN | apply Kd.R_drew)); exact Kd.R_mono (Kd.R_far (p := ⟨gb338, 2, none⟩) (Kd.R_far (p := ⟨gb338, 1, none⟩) (Kd.R_far (p := ⟨gb338, 0, none⟩) (Kd.R_far (p := ⟨gb360, 2, none⟩) (Kd.R_far (p := ⟨gb360, 1, none⟩) (Kd.R_far (p := ⟨gb360, 0, none⟩) (Kd.R_types (Kd.R_types HO356.out BK360.out (by decide)) BK338.out (by decide)) (fun _ hk => hk.1.2) (.int .i64 t352)) (fun _ hk => hk.1.2) (.int .i64 t353)) (fun _ hk => hk.1.2) (.slice Ao24 t354.length co24)) (fun _ hk => hk.2) (.int .i64 t352)) (fun _ hk => hk.2) (.int .i64 t353)) (fun _ hk => hk.2) (.slice Ao24 t354.length co24)) (fun _ hk => trivial), by repeat (first | (with_reducible first | exact HI0.out | apply IsS97.alloc | apply IsS97.drewN | apply IsS97.drew | apply IsS97.set_1 | apply IsS97.set_2 | refine IsS97.far ?_ NB0_338.out _ | refine IsS97.far ?_ NB0_345.out _ | refine IsS97.far ?_ NB0_360.out _) | exact HI0.out), by repeat (first | (with_reducible first | exact HB.out | apply below_alloc | apply pw_below_drewN | apply below_drew1 | refine below_set ?_ (IsS97.ge HI0.out) | refine below_set ?_ GE338.out | refine below_set ?_ GE345.out | refine below_set ?_ GE360.out) | exact HB.out), by repeat (first | (with_reducible first | exact HK.out | apply KeepBut.set_ | apply keep_drewN | apply keep_drew | apply keep_alloc | refine keep_far ?_ GW338.out _ | refine keep_far ?_ GW345.out _ | refine keep_far ?_ GW360.out _) | exact HK.out)⟩
end Go.Proofs.Ytklikbjlfaednaa.P

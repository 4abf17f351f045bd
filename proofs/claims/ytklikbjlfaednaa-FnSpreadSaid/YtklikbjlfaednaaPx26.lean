/- Contracts of the functions of the program, each one with its plain Lean function; written by a program of the session out of the translation. -/
import Derived.Test.YtklikbjlfaednaaNb
import Derived.Test.YtklikbjlfaednaaPx0
import Derived.Test.YtklikbjlfaednaaPx12
import Derived.Test.YtklikbjlfaednaaPx23
import Derived.Test.YtklikbjlfaednaaPx24
import Derived.Test.YtklikbjlfaednaaPx25
namespace Go.Proofs.Ytklikbjlfaednaa.P
open Go.RowKit Go.Proofs.YtklikbjlfaednaaW.PrintWords Go.Proofs.YtklikbjlfaednaaW.PrintLast Go.Proofs.YtklikbjlfaednaaW.PrintMore
attribute [local go_sem] max2_int min2_int max_two min_two max_three min_three max_four min_four   -- for this text's walks alone
set_option linter.unusedVariables false
set_option linter.unusedSimpArgs false
/-! ### spec_DrawRightTrain: function 31 -/
theorem spec_DrawRightTrain.mono : ∀ a0 k, LeO (spec_DrawRightTrain.f k a0) (spec_DrawRightTrain.f (k + 1) a0) := by
 intro a0 k
 unfold spec_DrawRightTrain.f
 repeat' first
  | (with_reducible exact spec_l01New.mono _ _)
  | (with_reducible exact spec_l14DrawRight.mono _ _ _ _ _)
  | (with_reducible exact spec_l14DrawSales.mono _ _ _ _ _ _)
  | (with_reducible exact LeO.refl _)
  | (with_reducible exact LeO.none _)
  | (with_reducible refine LeO.ite ?_ ?_)
  | (with_reducible refine LeO.bind ?_ (fun _ => ?_))
  | exact spec_l01New.mono _ _
  | exact spec_l14DrawRight.mono _ _ _ _ _
  | exact spec_l14DrawSales.mono _ _ _ _ _ _
  | exact LeO.none _
  | refine LeO.ite ?_ ?_
  | refine LeO.bind ?_ (fun _ => ?_)
def spec_DrawRightTrain.T3 : Bool × List (List Nat × List Nat) := (true, [([], []), ([], []), ([], []), ([2], [2]), ([3], [3]), ([], []), ([5], [5]), ([1, 4, 6, 3], [1, 4, 6]), ([0, 7, 0], [0]), ([7, 8, 0, 1, 2, 3, 4, 5, 6, 7, 8], [7])])
def spec_DrawRightTrain.B3 : List Nat := [0, 0, 0, 4, 12, 0, 32, 126, 255, 511]
theorem spec_DrawRightTrain.tab3 : rtab .any (opsOf Try.f31 3) = spec_DrawRightTrain.T3 := by kernel_rfl
theorem spec_DrawRightTrain.bits3 : waitsOk spec_DrawRightTrain.T3.2 spec_DrawRightTrain.B3 = true := by kernel_rfl
set_option maxHeartbeats 8000000 in
set_option maxRecDepth 100000 in
theorem spec_DrawRightTrain.calls (k : Nat) (A0 : Option Addr) (c0 : Nat) (l0 : List Int) (r1 : Int) (r2 : Int) (r3 : List (S66)) (r4 : List (S56)) (w : World) (hr0 : Kd.C (Kd.int .u8) w A0 l0.length l0) (hc0 : l0.length ≤ c0) (h : spec_DrawRightTrain.f k l0 = some (r1, r2, r3, r4)) :
 Calls Try.prog 31 #[.slice A0 l0.length c0] w fun e w' => ∃ v2_ v3_ : Value, e = .returned (.tuple #[.agg #[.int .i64 r1, .int .i64 r2, v2_], v3_]) ∧ Kd.R k66 66 w' w.heap.size (fun _ => True) v2_ r3 ∧ Kd.R k56 56 w' w.heap.size (fun _ => True) v3_ r4 ∧ Below w.heap.size w w' := by
 have hu29 := Try.underlying29
 have HR0 := Aside0.mk hr0
 have HC0 := Aside0.mk hc0
 clear hr0 hc0
 have HB := Aside0.mk (Below.refl w.heap.size w)
 have H : ((spec_l01New.f k l0).bind fun bt362 => ((spec_l14DrawRight.f k bt362.1 bt362.2.1 bt362.2.2 l0).bind fun bt366 => ((spec_l01Size.f l0 20).bind fun t374 => ((spec_l14DrawSales.f k bt362.1 bt366.2.2.2.1 bt366.2.2.2.2 (wrap64 (2 + t374)) bt366.2.1).bind fun bt375 => (some (bt366.1, bt366.2.1, bt366.2.2.1, bt375.1)))))) = some (r1, r2, r3, r4) := h
 clear h
 replace H := Option.bind_eq_some_iff.mp H
 obtain ⟨⟨t362, t363, t364⟩, A20, H⟩ := H
 replace H : ((spec_l14DrawRight.f k t362 t363 t364 l0).bind fun bt366 => ((spec_l01Size.f l0 20).bind fun t374 => ((spec_l14DrawSales.f k t362 bt366.2.2.2.1 bt366.2.2.2.2 (wrap64 (2 + t374)) bt366.2.1).bind fun bt375 => (some (bt366.1, bt366.2.1, bt366.2.2.1, bt375.1))))) = some (r1, r2, r3, r4) := H
 have A2 := Aside0.mk A20
 clear A20
 replace H := Option.bind_eq_some_iff.mp H
 obtain ⟨⟨t366, t367, t368, t371, t372⟩, A30, H⟩ := H
 replace H : ((spec_l01Size.f l0 20).bind fun t374 => ((spec_l14DrawSales.f k t362 t371 t372 (wrap64 (2 + t374)) t367).bind fun bt375 => (some (t366, t367, t368, bt375.1)))) = some (r1, r2, r3, r4) := H
 have A3 := Aside0.mk A30
 clear A30
 replace H := Option.bind_eq_some_iff.mp H
 obtain ⟨t374, A40, H⟩ := H
 replace H : ((spec_l14DrawSales.f k t362 t371 t372 (wrap64 (2 + t374)) t367).bind fun bt375 => (some (t366, t367, t368, bt375.1))) = some (r1, r2, r3, r4) := H
 have A4 := Aside0.mk A40
 clear A40
 replace H := Option.bind_eq_some_iff.mp H
 obtain ⟨⟨t375, t378, t379⟩, A50, H⟩ := H
 replace H : (some (t366, t367, t368, t375)) = some (r1, r2, r3, r4) := H
 have A5 := Aside0.mk A50
 clear A50
 simp only [Option.some.injEq, Prod.mk.injEq] at H
 obtain ⟨rfl, rfl, rfl, rfl⟩ := H
 go_enter Try.func31, Try.ntmps31
 try go_wp2_with (first | ((with_reducible refine gate_dst (N := 2) rfl ?_); refine box_event ?hg (N := 2) ?hd (cs := #[.int .i64 0, .int .i64 0, .slice none 0 0]) (t := 29) ?hr ?_; (case hd => rfl); (case hg => rfl); (case hr => first | (go_simp; done) | (go_simp; rfl)); intro gb361 hg w6 hbox hb; have n0_ := Aside0.mk (below_step (nH HB.out) hb); have n1_ := Aside0.mk (hbox); have n2_ := Aside0.mk ((by rw [hg]; exact (below_size (nH HB.out)) : w.heap.size ≤ gb361)); have n3_ := Aside0.mk ((by rw [hg]; exact (below_size (nH HB.out)) : w.heap.size ≤ gb361)); clear HB; have HB := n0_; have BK361 := n1_; have GW361 := n2_; have GE361 := n3_; clear n0_ n1_ n2_ n3_; clear hb hbox hg) | ((with_reducible refine gate_callee (f := 63) rfl ?_); refine goesL_ (some 7) rfl rfl Try.func63 (by kernel_rfl) rfl #[.slice A0 l0.length c0] rfl (by (try simp only [List.map_toArray, List.map_cons, List.map_nil]); first | done | rfl | (simp only [List.length_drop, List.length_take]; rfl)) ?_; (with_reducible refine (spec_l01New.calls k _ _ l0 t362 t363 t364 w _ ?side1 ?side2 ?side3 A2.out).mono ?_); (case side1 => repeat (first | (with_reducible first | exact HB.out | apply below_alloc | apply pw_below_drewN | apply below_drew1 | refine below_set ?_ GE361.out) | exact HB.out)); (case side2 => exact HR0.out); (case side3 => exact HC0.out); rintro e w7 ⟨g365, rfl, hi, hb, hb2⟩; refine ⟨_, rfl, ?_⟩; have n0_ := Aside0.mk (blk_below (g := gb361) (o := .cells #[.int .i64 0, .int .i64 0, .slice none 0 0] 29 (0, 0)) (nB BK361.out) hb2); have n1_ := Aside0.mk (hb); have n2_ := Aside0.mk (hi); have n3_ := Aside0.mk (IsS97.ne_blk hi (blk_below (g := gb361) (o := .cells #[.int .i64 0, .int .i64 0, .slice none 0 0] 29 (0, 0)) (nB BK361.out) hb2) (by decide)); have n4_ := Aside0.mk (Ne.symm (IsS97.ne_blk hi (blk_below (g := gb361) (o := .cells #[.int .i64 0, .int .i64 0, .slice none 0 0] 29 (0, 0)) (nB BK361.out) hb2) (by decide))); clear BK361; clear HB; have BK361 := n0_; have HB := n1_; have HI365 := n2_; have NB365_361 := n3_; have NB361_365 := n4_; clear n0_ n1_ n2_ n3_ n4_; (try clear hb); (try clear hb2); (try clear hk); (try clear hi)) | ((with_reducible refine gate_callee (f := 64) rfl ?_); refine goesL_ (some 10) rfl rfl Try.func64 (by kernel_rfl) rfl #[.pointer (some ⟨g365, 0, none⟩), .slice A0 l0.length c0] rfl (by (try simp only [List.map_toArray, List.map_cons, List.map_nil]); first | done | rfl | (simp only [List.length_drop, List.length_take]; rfl)) ?_; (with_reducible refine (spec_l14DrawRight.calls k g365 t362 t363 t364 _ _ l0 t366 t367 t368 t371 t372 w _ ?side1 ?side2 ?side3 ?side4 ?side5 A3.out).mono ?_); (case side1 => repeat (first | (with_reducible first | exact HI365.out | apply IsS97.alloc | apply IsS97.drewN | apply IsS97.drew | apply IsS97.set_1 | apply IsS97.set_2 | refine IsS97.far ?_ NB365_361.out _) | exact HI365.out)); (case side2 => repeat (first | (with_reducible first | exact HB.out | apply below_alloc | apply pw_below_drewN | apply below_drew1 | refine below_set ?_ (IsS97.ge HI365.out) | refine below_set ?_ GE361.out) | exact HB.out)); (case side3 => repeat (first | exact (Kd.C_below HR0.out HB.out) | (with_reducible refine Kd.C_alloc ?_ _) | (with_reducible refine Kd.C_drewN ?_ _) | (with_reducible refine Kd.C_drew ?_))); (case side4 => exact HC0.out); (case side5 => exact Kd.far_C 0 HR0.out (IsS97.ge HI365.out)); rintro e w8 ⟨v369, rfl, ho0, hi, hb, hk⟩; refine ⟨_, rfl, ?_⟩; have n0_ := Aside0.mk (KeepBut.blk hk (g' := gb361) (o := .cells #[.int .i64 0, .int .i64 0, .slice none 0 0] 29 (0, 0)) (nB BK361.out) NB361_365.out (by simp)); have n1_ := Aside0.mk (Kd.R_lower ho0 (below_size (by repeat (first | (with_reducible first | exact HB.out | apply below_alloc | apply pw_below_drewN | apply below_drew1 | refine below_set ?_ (IsS97.ge HI365.out) | refine below_set ?_ GE361.out) | exact HB.out)))); have n2_ := Aside0.mk (hb); have n3_ := Aside0.mk (hi); clear BK361; clear HB; clear HI365; have BK361 := n0_; have HO370 := n1_; have HB := n2_; have HI365 := n3_; clear n0_ n1_ n2_ n3_; (try clear hb); (try clear hb2); (try clear hk); (try clear hi); (try clear ho0)) | ((with_reducible refine gate_dst (N := 5) rfl ?_); refine box_event ?hg (N := 5) ?hd (cs := #[.int .i64 0, .int .i64 0, .slice none 0 0]) (t := 29) ?hr ?_; (case hd => rfl); (case hg => rfl); (case hr => first | (go_simp; done) | (go_simp; rfl)); intro gb373 hg w9 hbox hb; have n0_ := Aside0.mk (Kd.R_below (nR HO370.out) hb); have n1_ := Aside0.mk (blk_below (g := gb361) (o := .cells #[.int .i64 0, .int .i64 0, .slice none 0 0] 29 (0, 0)) (nB BK361.out) hb); have n2_ := Aside0.mk (IsS97.below (by repeat (first | (with_reducible first | exact HI365.out | apply IsS97.alloc | apply IsS97.drewN | apply IsS97.drew | apply IsS97.set_1 | apply IsS97.set_2 | refine IsS97.far ?_ NB365_361.out _) | exact HI365.out)) hb); have n3_ := Aside0.mk (below_step (by repeat (first | (with_reducible first | exact HB.out | apply below_alloc | apply pw_below_drewN | apply below_drew1 | refine below_set ?_ (IsS97.ge HI365.out) | refine below_set ?_ GE361.out) | exact HB.out)) hb); have n4_ := Aside0.mk (hbox); have n5_ := Aside0.mk ((by rw [hg]; exact (below_size (by repeat (first | (with_reducible first | exact HB.out | apply below_alloc | apply pw_below_drewN | apply below_drew1 | refine below_set ?_ (IsS97.ge HI365.out) | refine below_set ?_ GE361.out) | exact HB.out))) : w.heap.size ≤ gb373)); have n6_ := Aside0.mk ((by rw [hg]; exact (below_size (by repeat (first | (with_reducible first | exact HB.out | apply below_alloc | apply pw_below_drewN | apply below_drew1 | refine below_set ?_ (IsS97.ge HI365.out) | refine below_set ?_ GE361.out) | exact HB.out))) : w.heap.size ≤ gb373)); have n7_ := Aside0.mk ((by rw [hg]; exact Nat.ne_of_lt (blk_lt (g := gb361) (o := .cells #[.int .i64 0, .int .i64 0, .slice none 0 0] 29 (0, 0)) (nB BK361.out)) : gb361 ≠ gb373)); have n8_ := Aside0.mk ((by rw [hg]; exact Nat.ne_of_gt (blk_lt (g := gb361) (o := .cells #[.int .i64 0, .int .i64 0, .slice none 0 0] 29 (0, 0)) (nB BK361.out)) : gb373 ≠ gb361)); have n9_ := Aside0.mk ((by rw [hg]; exact Nat.ne_of_lt (IsS97.lt (show IsS97 w _ g365 t362 t371 t372 from by repeat (first | (with_reducible first | exact HI365.out | apply IsS97.alloc | apply IsS97.drewN | apply IsS97.drew | apply IsS97.set_1 | apply IsS97.set_2 | refine IsS97.far ?_ NB365_361.out _) | exact HI365.out))) : g365 ≠ gb373)); have n10_ := Aside0.mk ((by rw [hg]; exact Nat.ne_of_gt (IsS97.lt (show IsS97 w _ g365 t362 t371 t372 from by repeat (first | (with_reducible first | exact HI365.out | apply IsS97.alloc | apply IsS97.drewN | apply IsS97.drew | apply IsS97.set_1 | apply IsS97.set_2 | refine IsS97.far ?_ NB365_361.out _) | exact HI365.out))) : gb373 ≠ g365)); clear HO370; clear BK361; clear HI365; clear HB; have HO370 := n0_; have BK361 := n1_; have HI365 := n2_; have HB := n3_; have BK373 := n4_; have GW373 := n5_; have GE373 := n6_; have NB361_373 := n7_; have NB373_361 := n8_; have NB365_373 := n9_; have NB373_365 := n10_; clear n0_ n1_ n2_ n3_ n4_ n5_ n6_ n7_ n8_ n9_ n10_; clear hb hbox hg; have hnb10 := NB373_361.out; have hnc10 := NB361_373.out; have hnb11 := NB373_365.out; have hnc11 := NB365_373.out; have hcz12_0 : w9.cell? ⟨gb373, 0, none⟩ = some (.int .i64 0) := (blk_cell BK373.out 0).trans rfl; have hcz12_1 : w9.cell? ⟨gb373, 1, none⟩ = some (.int .i64 0) := (blk_cell BK373.out 1).trans rfl; have hcz12_2 : w9.cell? ⟨gb373, 2, none⟩ = some (.slice none 0 0) := (blk_cell BK373.out 2).trans rfl; have hfz12_0 := blk_frozen BK373.out 0; have hfz12_1 := blk_frozen BK373.out 1; have hfz12_2 := blk_frozen BK373.out 2; obtain ⟨Ao13, co13, eo13⟩ := Kd.R_slice HO370.out; subst eo13))
 have n0_ : Aside0 (Kd.R k66 66 (((w9.setCell ⟨gb373, 0, none⟩ (.int .i64 t366)).setCell ⟨gb373, 1, none⟩ (.int .i64 t367)).setCell ⟨gb373, 2, none⟩ (.slice Ao13 t368.length co13)) w.heap.size (fun _ => True) (.slice Ao13 t368.length co13) t368) := ⟨by (with_reducible repeat (first | apply Kd.R_alloc | apply Kd.R_drewN | apply Kd.R_drew)); exact Kd.R_mono (Kd.R_far (p := ⟨gb373, 2, none⟩) (Kd.R_far (p := ⟨gb373, 1, none⟩) (Kd.R_far (p := ⟨gb373, 0, none⟩) (Kd.R_types HO370.out BK373.out (by decide)) (fun _ hk => hk.2) (.int .i64 t366)) (fun _ hk => hk.2) (.int .i64 t367)) (fun _ hk => hk.2) (.slice Ao13 t368.length co13)) (fun _ hk => trivial)⟩
 have n1_ : Aside0 ((((w9.setCell ⟨gb373, 0, none⟩ (.int .i64 t366)).setCell ⟨gb373, 1, none⟩ (.int .i64 t367)).setCell ⟨gb373, 2, none⟩ (.slice Ao13 t368.length co13)).heap[gb361]? = some (.cells #[.int .i64 0, .int .i64 0, .slice none 0 0] 29 (0, 0))) := ⟨by (with_reducible repeat (first | refine blk_drewN ?_ _ | refine blk_drew ?_ | refine blk_alloc ?_ _)); refine blk_far ?_ NB361_373.out _; (with_reducible repeat (first | refine blk_drewN ?_ _ | refine blk_drew ?_ | refine blk_alloc ?_ _)); refine blk_far ?_ NB361_373.out _; (with_reducible repeat (first | refine blk_drewN ?_ _ | refine blk_drew ?_ | refine blk_alloc ?_ _)); refine blk_far ?_ NB361_373.out _; (with_reducible repeat (first | refine blk_drewN ?_ _ | refine blk_drew ?_ | refine blk_alloc ?_ _)); exact BK361.out⟩
 have n2_ : Aside0 ((((w9.setCell ⟨gb373, 0, none⟩ (.int .i64 t366)).setCell ⟨gb373, 1, none⟩ (.int .i64 t367)).setCell ⟨gb373, 2, none⟩ (.slice Ao13 t368.length co13)).heap[gb373]? = some (.cells #[.int .i64 t366, .int .i64 t367, .slice Ao13 t368.length co13] 29 (0, 0))) := ⟨by (with_reducible repeat (first | refine blk_drewN ?_ _ | refine blk_drew ?_ | refine blk_alloc ?_ _)); refine blk_put (cs := #[.int .i64 t366, .int .i64 t367, .slice none 0 0]) ?_ 2 _ rfl; (with_reducible repeat (first | refine blk_drewN ?_ _ | refine blk_drew ?_ | refine blk_alloc ?_ _)); refine blk_put (cs := #[.int .i64 t366, .int .i64 0, .slice none 0 0]) ?_ 1 _ rfl; (with_reducible repeat (first | refine blk_drewN ?_ _ | refine blk_drew ?_ | refine blk_alloc ?_ _)); refine blk_put (cs := #[.int .i64 0, .int .i64 0, .slice none 0 0]) ?_ 0 _ rfl; (with_reducible repeat (first | refine blk_drewN ?_ _ | refine blk_drew ?_ | refine blk_alloc ?_ _)); exact BK373.out⟩
 have n3_ : Aside0 (IsS97 w (((w9.setCell ⟨gb373, 0, none⟩ (.int .i64 t366)).setCell ⟨gb373, 1, none⟩ (.int .i64 t367)).setCell ⟨gb373, 2, none⟩ (.slice Ao13 t368.length co13)) g365 t362 t371 t372) := ⟨by repeat (first | (with_reducible first | exact HI365.out | apply IsS97.alloc | apply IsS97.drewN | apply IsS97.drew | apply IsS97.set_1 | apply IsS97.set_2 | refine IsS97.far ?_ NB365_361.out _ | refine IsS97.far ?_ NB365_373.out _) | exact HI365.out)⟩
 have n4_ : Aside0 (Below w.heap.size w (((w9.setCell ⟨gb373, 0, none⟩ (.int .i64 t366)).setCell ⟨gb373, 1, none⟩ (.int .i64 t367)).setCell ⟨gb373, 2, none⟩ (.slice Ao13 t368.length co13))) := ⟨by repeat (first | (with_reducible first | exact HB.out | apply below_alloc | apply pw_below_drewN | apply below_drew1 | refine below_set ?_ (IsS97.ge HI365.out) | refine below_set ?_ GE361.out | refine below_set ?_ GE373.out) | exact HB.out)⟩
 (try clear HO370); (try clear BK361); (try clear BK373); (try clear HI365); (try clear HB)
 generalize (((w9.setCell ⟨gb373, 0, none⟩ (.int .i64 t366)).setCell ⟨gb373, 1, none⟩ (.int .i64 t367)).setCell ⟨gb373, 2, none⟩ (.slice Ao13 t368.length co13)) = w14 at n0_ n1_ n2_ n3_ n4_ ⊢
 have HO370 := n0_; have BK361 := n1_; have BK373 := n2_; have HI365 := n3_; have HB := n4_; clear n0_ n1_ n2_ n3_ n4_
 have n0_ := Aside0.mk (Kd.R_drew HO370.out)
 have n1_ := Aside0.mk (blk_drew BK361.out)
 have n2_ := Aside0.mk (blk_drew BK373.out)
 have n3_ := Aside0.mk (IsS97.drew HI365.out)
 have n4_ := Aside0.mk (below_drew1 HB.out)
 clear HO370; clear BK361; clear BK373; clear HI365; clear HB; have HO370 := n0_; have BK361 := n1_; have BK373 := n2_; have HI365 := n3_; have HB := n4_; clear n0_ n1_ n2_ n3_ n4_
 refine start_ (n := 10) (S := fun w' => w'.cell? ⟨gb373, 0, none⟩ = some (.int .i64 t366) ∧ w'.cell? ⟨gb373, 1, none⟩ = some (.int .i64 t367) ∧ w'.cell? ⟨gb373, 2, none⟩ = some (.slice Ao13 t368.length co13)) (ds := []) #[F,F,F,F,F,F,F,F,F,F] (by kernel_rfl) rfl rfl ⟨(blk_cell BK373.out 0).trans rfl, (blk_cell BK373.out 1).trans rfl, (blk_cell BK373.out 2).trans rfl⟩ (fun hHeld => ?_); refine with_tabW spec_DrawRightTrain.tab3 spec_DrawRightTrain.bits3 (fun HT_ HW_ => ?_)
 generalize w14.drew = w15 at HO370 BK361 BK373 HI365 HB hHeld ⊢
 refine pU 1 (some 12) #[F,T,F,F,F,F,F,F,F,F] rfl rfl HT_.out ?_
 refine pU 2 (some 13) #[F,T,T,F,F,F,F,F,F,F] rfl rfl HT_.out ?_
 refine pU 5 (some 16) #[F,T,T,F,F,T,F,F,F,F] rfl rfl HT_.out ?_
 refine tU3 0 (some 11) #[T,T,T,F,F,T,F,F,F,F] rfl rfl HT_.out HW_.out hHeld ?_
 refine tU3 6 (some 17) #[T,T,T,F,F,T,T,F,F,F] rfl rfl HT_.out HW_.out hHeld ?_
 refine one_ (i := 3) (N := some 14) #[T,T,T,T,F,T,T,F,F,F] rfl rfl (one_of HT_.out (by kernel_rfl)) (by decide) (fun K hK => ?_)
 refine goes_ Try.func66 (by kernel_rfl) rfl #[.slice A0 l0.length c0, .int .i64 20] (by rfl) rfl rfl (by (try simp only [List.map_toArray, List.map_cons, List.map_nil]); first | done | rfl | (simp only [List.length_drop, List.length_take]; rfl)) ?_
 with_reducible refine (spec_l01Size.calls _ _ l0 20 t374 _ ?side1 ?side2 A4.out).mono ?_
 (case side1 => repeat (first | exact (Kd.C_below HR0.out HB.out) | (with_reducible refine Kd.C_alloc ?_ _) | (with_reducible refine Kd.C_drewN ?_ _) | (with_reducible refine Kd.C_drew ?_)))
 (case side2 => exact HC0.out)
 rintro e w' ⟨rfl, ⟨nd, rfl⟩⟩
 refine ⟨_, rfl, ?_⟩
 refine hK.out _ _ ⟨(blk_cell BK373.out 0).trans rfl, (blk_cell BK373.out 1).trans rfl, (blk_cell BK373.out 2).trans rfl⟩ (fun hHeld => ?_)
 clear hK K
 refine norm_ (a' := ?_) ?_ ?_
 rotate_left
 · show Act.put _ (some 14) _ = _
   simp only [Act.put, List.setIfInBounds_toArray, List.set_cons_zero, List.set_cons_succ, i64_w, i32_w]
   rfl
 refine pU 4 (some 15) #[T,T,T,T,T,T,T,F,F,F] rfl rfl HT_.out ?_
 refine one_ (i := 7) (N := some 18) #[T,T,T,T,T,T,T,T,F,F] rfl rfl (one_of HT_.out (by kernel_rfl)) (by decide) (fun K hK => ?_)
 refine goes_ Try.func65 (by kernel_rfl) rfl #[.pointer (some ⟨g365, 0, none⟩), .int .i64 (wrap64 (2 + t374)), .int .i64 t367] (by rfl) rfl rfl (by (try simp only [List.map_toArray, List.map_cons, List.map_nil]); first | done | rfl | (simp only [List.length_drop, List.length_take]; rfl)) ?_
 with_reducible refine (spec_l14DrawSales.calls k g365 t362 t371 t372 (wrap64 (2 + t374)) t367 t375 t378 t379 w _ ?side1 ?side2 A5.out).mono ?_
 (case side1 => repeat (first | (with_reducible first | exact HI365.out | apply IsS97.alloc | apply IsS97.drewN | apply IsS97.drew | apply IsS97.set_1 | apply IsS97.set_2 | refine IsS97.far ?_ NB365_361.out _ | refine IsS97.far ?_ NB365_373.out _) | exact HI365.out))
 (case side2 => repeat (first | (with_reducible first | exact HB.out | apply below_alloc | apply pw_below_drewN | apply below_drew1 | refine below_set ?_ (IsS97.ge HI365.out) | refine below_set ?_ GE361.out | refine below_set ?_ GE373.out) | exact HB.out))
 rintro e w16 ⟨v376, rfl, ho0, hi, hb, hk⟩
 refine ⟨_, rfl, ?_⟩
 have n0_ := Aside0.mk (KeepBut.blk hk (g' := gb361) (o := .cells #[.int .i64 0, .int .i64 0, .slice none 0 0] 29 (0, 0)) (nB BK361.out) NB361_365.out (by simp))
 have n1_ := Aside0.mk (Kd.R_mono (Kd.R_keep (IsS97.apart (show IsS97 w _ g365 t362 t371 t372 from by repeat (first | (with_reducible first | exact HI365.out | apply IsS97.alloc | apply IsS97.drewN | apply IsS97.drew | apply IsS97.set_1 | apply IsS97.set_2 | refine IsS97.far ?_ NB365_361.out _ | refine IsS97.far ?_ NB365_373.out _) | exact HI365.out)) (nR HO370.out) (by decide)) hk (fun _ h => h.2)) (fun _ h => h.1))
 have n2_ := Aside0.mk (KeepBut.blk hk (g' := gb373) (o := .cells #[.int .i64 t366, .int .i64 t367, .slice Ao13 t368.length co13] 29 (0, 0)) (nB BK373.out) NB373_365.out (by simp))
 have n3_ := Aside0.mk (Kd.R_lower ho0 (below_size (by repeat (first | (with_reducible first | exact HB.out | apply below_alloc | apply pw_below_drewN | apply below_drew1 | refine below_set ?_ (IsS97.ge HI365.out) | refine below_set ?_ GE361.out | refine below_set ?_ GE373.out) | exact HB.out))))
 have n4_ := Aside0.mk (hb)
 have n5_ := Aside0.mk (hi)
 clear BK361; clear HO370; clear BK373; clear HB; clear HI365; have BK361 := n0_; have HO370 := n1_; have BK373 := n2_; have HO377 := n3_; have HB := n4_; have HI365 := n5_; clear n0_ n1_ n2_ n3_ n4_ n5_; (try clear hb); (try clear hb2); (try clear hk); (try clear hi); (try clear ho0)
 refine hK.out _ _ ⟨(blk_cell BK373.out 0).trans rfl, (blk_cell BK373.out 1).trans rfl, (blk_cell BK373.out 2).trans rfl⟩ (fun hHeld => ?_)
 clear hK K
 refine norm_ (a' := ?_) ?_ ?_
 rotate_left
 · show Act.put _ (some 18) _ = _
   simp only [Act.put, List.setIfInBounds_toArray, List.set_cons_zero, List.set_cons_succ, i64_w, i32_w]
   rfl
 refine one_ (i := 8) (N := none) #[T,T,T,T,T,T,T,T,T,F] rfl rfl (one_of HT_.out (by kernel_rfl)) (by decide) (fun K hK => ?_)
 have hs17 : w16.cell? ⟨gb361, 0, none⟩ = some (.int .i64 0) := (blk_cell BK361.out 0).trans rfl
 have hfs17 := blk_frozen BK361.out 0
 have hns17_1 := NB373_361.out; have hms17_1 := NB361_373.out
 have hs18 : w16.cell? ⟨gb361, 1, none⟩ = some (.int .i64 0) := (blk_cell BK361.out 1).trans rfl
 have hfs18 := blk_frozen BK361.out 1
 have hns18_1 := NB373_361.out; have hms18_1 := NB361_373.out
 have hs19 : w16.cell? ⟨gb361, 2, none⟩ = some (.slice none 0 0) := (blk_cell BK361.out 2).trans rfl
 have hfs19 := blk_frozen BK361.out 2
 have hns19_1 := NB373_361.out; have hms19_1 := NB361_373.out
 refine skip_ (w1 := ?_) (by rfl) rfl ?_ ?_
 rotate_left
 · go_simp; rfl
 refine hK.out _ _ ⟨((cell_far (p := ⟨gb361, _, none⟩) NB373_361.out _).trans (((cell_far (p := ⟨gb361, _, none⟩) NB373_361.out _).trans (((cell_far (p := ⟨gb361, _, none⟩) NB373_361.out _).trans (hHeld.1)))))), ((cell_far (p := ⟨gb361, _, none⟩) NB373_361.out _).trans (((cell_far (p := ⟨gb361, _, none⟩) NB373_361.out _).trans (((cell_far (p := ⟨gb361, _, none⟩) NB373_361.out _).trans (hHeld.2.1)))))), ((cell_far (p := ⟨gb361, _, none⟩) NB373_361.out _).trans (((cell_far (p := ⟨gb361, _, none⟩) NB373_361.out _).trans (((cell_far (p := ⟨gb361, _, none⟩) NB373_361.out _).trans (hHeld.2.2))))))⟩ (fun hHeld => ?_)
 clear hK K
 refine pU 9 (some 3) #[T,T,T,T,T,T,T,T,T,T] rfl rfl HT_.out ?_
 refine done_ (done_of HT_.out (by kernel_rfl)) ?_
 try go_wp2
 refine bodyPost_ret (results_ct rfl _ _ gb361 29 #[.int .i64 t366, .int .i64 t367, .slice Ao13 t368.length co13] (0, 0) _ rfl (by (with_reducible repeat (first | refine blk_drewN ?_ _ | refine blk_drew ?_ | refine blk_alloc ?_ _)); refine blk_put (cs := #[.int .i64 t366, .int .i64 t367, .slice none 0 0]) ?_ 2 _ rfl; (with_reducible repeat (first | refine blk_drewN ?_ _ | refine blk_drew ?_ | refine blk_alloc ?_ _)); refine blk_put (cs := #[.int .i64 t366, .int .i64 0, .slice none 0 0]) ?_ 1 _ rfl; (with_reducible repeat (first | refine blk_drewN ?_ _ | refine blk_drew ?_ | refine blk_alloc ?_ _)); refine blk_put (cs := #[.int .i64 0, .int .i64 0, .slice none 0 0]) ?_ 0 _ rfl; (with_reducible repeat (first | refine blk_drewN ?_ _ | refine blk_drew ?_ | refine blk_alloc ?_ _)); exact BK361.out) Try.underlying29 rfl (by kernel_rfl)) rfl ?_
 exact ⟨_, _, by first | rfl | (simp [errW_none, errW_some] <;> rfl) | (simp [*, errW_none, errW_some] <;> first | rfl | (simp [wrap64]; done)), by (with_reducible repeat (first | apply Kd.R_alloc | apply Kd.R_drewN | apply Kd.R_drew)); exact Kd.R_mono (Kd.R_far (p := ⟨gb361, 2, none⟩) (Kd.R_far (p := ⟨gb361, 1, none⟩) (Kd.R_far (p := ⟨gb361, 0, none⟩) (Kd.R_types HO370.out BK361.out (by decide)) (fun _ hk => hk.2) (.int .i64 t366)) (fun _ hk => hk.2) (.int .i64 t367)) (fun _ hk => hk.2) (.slice Ao13 t368.length co13)) (fun _ hk => trivial), by (with_reducible repeat (first | apply Kd.R_alloc | apply Kd.R_drewN | apply Kd.R_drew)); exact Kd.R_mono (Kd.R_far (p := ⟨gb361, 2, none⟩) (Kd.R_far (p := ⟨gb361, 1, none⟩) (Kd.R_far (p := ⟨gb361, 0, none⟩) (Kd.R_types HO377.out BK361.out (by decide)) (fun _ hk => hk.2) (.int .i64 t366)) (fun _ hk => hk.2) (.int .i64 t367)) (fun _ hk => hk.2) (.slice Ao13 t368.length co13)) (fun _ hk => trivial), by repeat (first | (with_reducible first | exact HB.out | apply below_alloc | apply pw_below_drewN | apply below_drew1 | refine below_set ?_ (IsS97.ge HI365.out) | refine below_set ?_ GE361.out | refine below_set ?_ GE373.out) | exact HB.out)⟩
end Go.Proofs.Ytklikbjlfaednaa.P

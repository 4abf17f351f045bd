/- Contracts of the functions of the program, each one with its plain Lean function; written by a program of the session out of the translation. -/
import Derived.Test.YtnamdbnnijfniaaNb
import Derived.Test.YtnamdbnnijfniaaPx0
import Derived.Test.YtnamdbnnijfniaaPx16
import Derived.Test.YtnamdbnnijfniaaPx21
import Derived.Test.YtnamdbnnijfniaaPx23
import Derived.Test.YtnamdbnnijfniaaPx25
import Derived.Test.YtnamdbnnijfniaaPx28
import Derived.Test.YtnamdbnnijfniaaPx30
import Derived.Test.YtnamdbnnijfniaaPx33
import Derived.Test.YtnamdbnnijfniaaPx34
namespace Go.Proofs.Ytnamdbnnijfniaa.P
open Go.RowKit Go.Proofs.YtnamdbnnijfniaaW.PrintWords Go.Proofs.YtnamdbnnijfniaaW.PrintLast Go.Proofs.YtnamdbnnijfniaaW.PrintMore
attribute [local go_sem] max2_int min2_int max_two min_two max_three min_three max_four min_four   -- for this text's walks alone
set_option linter.unusedVariables false
set_option linter.unusedSimpArgs false
/-! ### laws_FnDuty: function 7 -/
theorem laws_FnDuty.mono_l : ∀ k, (∀ y0 y1 y2 y3 y4 y5 y6, LeO (laws_FnDuty.j0 k y0 y1 y2 y3 y4 y5 y6) (laws_FnDuty.j0 (k + 1) y0 y1 y2 y3 y4 y5 y6)) ∧ (∀ y0 y1 y2 y3 y4 y5 y6 y7 y8, LeO (laws_FnDuty.j1 k y0 y1 y2 y3 y4 y5 y6 y7 y8) (laws_FnDuty.j1 (k + 1) y0 y1 y2 y3 y4 y5 y6 y7 y8)) ∧ (∀ y0 y1 y2 y3 y4 y5 y6 y7 y8 y9, LeO (laws_FnDuty.j2 k y0 y1 y2 y3 y4 y5 y6 y7 y8 y9) (laws_FnDuty.j2 (k + 1) y0 y1 y2 y3 y4 y5 y6 y7 y8 y9))
 | 0 => ⟨fun _ _ _ _ _ _ _ r h => by simp [laws_FnDuty.j0] at h, fun _ _ _ _ _ _ _ _ _ r h => by simp [laws_FnDuty.j1] at h, fun _ _ _ _ _ _ _ _ _ _ r h => by simp [laws_FnDuty.j2] at h⟩
 | k + 1 => by
  obtain ⟨ih0, ih1, ih2⟩ := laws_FnDuty.mono_l k
  refine ⟨?_, ?_, ?_⟩
  · intro y0 y1 y2 y3 y4 y5 y6
    unfold laws_FnDuty.j0
    repeat' first
    | (with_reducible exact ih0 _ _ _ _ _ _ _)
    | (with_reducible exact ih1 _ _ _ _ _ _ _ _ _)
    | (with_reducible exact ih2 _ _ _ _ _ _ _ _ _ _)
    | (with_reducible exact impl_Driven.mono _ _ _)
    | (with_reducible exact impl_DutyCode.mono _ _ _ _ _ _ _)
    | (with_reducible exact impl_Stretched.mono _ _ _ _)
    | (with_reducible exact impl_Wage.mono _ _ _ _ _ _ _ _)
    | (with_reducible exact spec_DrawRightChain.mono _ _)
    | (with_reducible exact spec_DutyCode.mono _ _ _ _ _ _ _)
    | (with_reducible exact spec_Stretched.mono _ _ _ _)
    | (with_reducible exact LeO.refl _)
    | (with_reducible exact LeO.none _)
    | (with_reducible refine LeO.ite ?_ ?_)
    | (with_reducible refine LeO.bind ?_ (fun _ => ?_))
    | exact ih0 _ _ _ _ _ _ _
    | exact ih1 _ _ _ _ _ _ _ _ _
    | exact ih2 _ _ _ _ _ _ _ _ _ _
    | exact impl_Driven.mono _ _ _
    | exact impl_DutyCode.mono _ _ _ _ _ _ _
    | exact impl_Stretched.mono _ _ _ _
    | exact impl_Wage.mono _ _ _ _ _ _ _ _
    | exact spec_DrawRightChain.mono _ _
    | exact spec_DutyCode.mono _ _ _ _ _ _ _
    | exact spec_Stretched.mono _ _ _ _
    | exact LeO.none _
    | refine LeO.ite ?_ ?_
    | refine LeO.bind ?_ (fun _ => ?_)
  · intro y0 y1 y2 y3 y4 y5 y6 y7 y8
    unfold laws_FnDuty.j1
    repeat' first
    | (with_reducible exact ih0 _ _ _ _ _ _ _)
    | (with_reducible exact ih1 _ _ _ _ _ _ _ _ _)
    | (with_reducible exact ih2 _ _ _ _ _ _ _ _ _ _)
    | (with_reducible exact impl_Driven.mono _ _ _)
    | (with_reducible exact impl_DutyCode.mono _ _ _ _ _ _ _)
    | (with_reducible exact impl_Stretched.mono _ _ _ _)
    | (with_reducible exact impl_Wage.mono _ _ _ _ _ _ _ _)
    | (with_reducible exact spec_DrawRightChain.mono _ _)
    | (with_reducible exact spec_DutyCode.mono _ _ _ _ _ _ _)
    | (with_reducible exact spec_Stretched.mono _ _ _ _)
    | (with_reducible exact LeO.refl _)
    | (with_reducible exact LeO.none _)
    | (with_reducible refine LeO.ite ?_ ?_)
    | (with_reducible refine LeO.bind ?_ (fun _ => ?_))
    | exact ih0 _ _ _ _ _ _ _
    | exact ih1 _ _ _ _ _ _ _ _ _
    | exact ih2 _ _ _ _ _ _ _ _ _ _
    | exact impl_Driven.mono _ _ _
    | exact impl_DutyCode.mono _ _ _ _ _ _ _
    | exact impl_Stretched.mono _ _ _ _
    | exact impl_Wage.mono _ _ _ _ _ _ _ _
    | exact spec_DrawRightChain.mono _ _
    | exact spec_DutyCode.mono _ _ _ _ _ _ _
    | exact spec_Stretched.mono _ _ _ _
    | exact LeO.none _
    | refine LeO.ite ?_ ?_
    | refine LeO.bind ?_ (fun _ => ?_)
  · intro y0 y1 y2 y3 y4 y5 y6 y7 y8 y9
    unfold laws_FnDuty.j2
    repeat' first
    | (with_reducible exact ih0 _ _ _ _ _ _ _)
    | (with_reducible exact ih1 _ _ _ _ _ _ _ _ _)
    | (with_reducible exact ih2 _ _ _ _ _ _ _ _ _ _)
    | (with_reducible exact impl_Driven.mono _ _ _)
    | (with_reducible exact impl_DutyCode.mono _ _ _ _ _ _ _)
    | (with_reducible exact impl_Stretched.mono _ _ _ _)
    | (with_reducible exact impl_Wage.mono _ _ _ _ _ _ _ _)
    | (with_reducible exact spec_DrawRightChain.mono _ _)
    | (with_reducible exact spec_DutyCode.mono _ _ _ _ _ _ _)
    | (with_reducible exact spec_Stretched.mono _ _ _ _)
    | (with_reducible exact LeO.refl _)
    | (with_reducible exact LeO.none _)
    | (with_reducible refine LeO.ite ?_ ?_)
    | (with_reducible refine LeO.bind ?_ (fun _ => ?_))
    | exact ih0 _ _ _ _ _ _ _
    | exact ih1 _ _ _ _ _ _ _ _ _
    | exact ih2 _ _ _ _ _ _ _ _ _ _
    | exact impl_Driven.mono _ _ _
    | exact impl_DutyCode.mono _ _ _ _ _ _ _
    | exact impl_Stretched.mono _ _ _ _
    | exact impl_Wage.mono _ _ _ _ _ _ _ _
    | exact spec_DrawRightChain.mono _ _
    | exact spec_DutyCode.mono _ _ _ _ _ _ _
    | exact spec_Stretched.mono _ _ _ _
    | exact LeO.none _
    | refine LeO.ite ?_ ?_
    | refine LeO.bind ?_ (fun _ => ?_)
theorem laws_FnDuty.mono : ∀ a0 k, LeO (laws_FnDuty.f k a0) (laws_FnDuty.f (k + 1) a0) := by
 intro a0 k
 obtain ⟨ih0, ih1, ih2⟩ := laws_FnDuty.mono_l k
 unfold laws_FnDuty.f
 repeat' first
  | (with_reducible exact ih0 _ _ _ _ _ _ _)
  | (with_reducible exact ih1 _ _ _ _ _ _ _ _ _)
  | (with_reducible exact ih2 _ _ _ _ _ _ _ _ _ _)
  | (with_reducible exact impl_Driven.mono _ _ _)
  | (with_reducible exact impl_DutyCode.mono _ _ _ _ _ _ _)
  | (with_reducible exact impl_Stretched.mono _ _ _ _)
  | (with_reducible exact impl_Wage.mono _ _ _ _ _ _ _ _)
  | (with_reducible exact spec_DrawRightChain.mono _ _)
  | (with_reducible exact spec_DutyCode.mono _ _ _ _ _ _ _)
  | (with_reducible exact spec_Stretched.mono _ _ _ _)
  | (with_reducible exact LeO.refl _)
  | (with_reducible exact LeO.none _)
  | (with_reducible refine LeO.ite ?_ ?_)
  | (with_reducible refine LeO.bind ?_ (fun _ => ?_))
  | exact ih0 _ _ _ _ _ _ _
  | exact ih1 _ _ _ _ _ _ _ _ _
  | exact ih2 _ _ _ _ _ _ _ _ _ _
  | exact impl_Driven.mono _ _ _
  | exact impl_DutyCode.mono _ _ _ _ _ _ _
  | exact impl_Stretched.mono _ _ _ _
  | exact impl_Wage.mono _ _ _ _ _ _ _ _
  | exact spec_DrawRightChain.mono _ _
  | exact spec_DutyCode.mono _ _ _ _ _ _ _
  | exact spec_Stretched.mono _ _ _ _
  | exact LeO.none _
  | refine LeO.ite ?_ ?_
  | refine LeO.bind ?_ (fun _ => ?_)
set_option maxHeartbeats 8000000 in
set_option maxRecDepth 100000 in
theorem laws_FnDuty.calls (k : Nat) (A0 : Option Addr) (c0 : Nat) (l0 : List Int) (r : Bool) (w : World) (hr0 : Kd.C (Kd.int .u8) w A0 l0.length l0) (hc0 : l0.length ≤ c0) (ht : Aside0 (r = true)) (h : laws_FnDuty.f k l0 = some r) :
 Calls Try.prog 7 #[.slice A0 l0.length c0] w fun e w' => e = .returned (.bool r) ∧ Below w.heap.size w w' := by
 have hu25 := Try.underlying25
 have HR0 := Aside0.mk hr0
 have HC0 := Aside0.mk hc0
 clear hr0 hc0
 have HB := Aside0.mk (Below.refl w.heap.size w)
 have H : ((laws_big.f l0).bind fun t410 => (if t410 = true then (some true) else ((spec_DrawRightChain.f k l0).bind fun bt411 => (if (bt411.2.1.length : Int) > 3 then (if 3 ≤ (bt411.2.1.length : Int) then (laws_FnDuty.j0 k l0 bt411.1 (bt411.2.1.take (3 : Int).toNat) bt411.2.2.1 bt411.2.2.2.1 bt411.2.2.2.2.1 bt411.2.2.2.2.2) else (none)) else (laws_FnDuty.j0 k l0 bt411.1 bt411.2.1 bt411.2.2.1 bt411.2.2.2.1 bt411.2.2.2.2.1 bt411.2.2.2.2.2))))) = some r := h
 clear h
 replace H := Option.bind_eq_some_iff.mp H
 obtain ⟨t410, A20, H⟩ := H
 replace H : (if t410 = true then (some true) else ((spec_DrawRightChain.f k l0).bind fun bt411 => (if (bt411.2.1.length : Int) > 3 then (if 3 ≤ (bt411.2.1.length : Int) then (laws_FnDuty.j0 k l0 bt411.1 (bt411.2.1.take (3 : Int).toNat) bt411.2.2.1 bt411.2.2.2.1 bt411.2.2.2.2.1 bt411.2.2.2.2.2) else (none)) else (laws_FnDuty.j0 k l0 bt411.1 bt411.2.1 bt411.2.2.1 bt411.2.2.2.1 bt411.2.2.2.2.1 bt411.2.2.2.2.2)))) = some r := H
 have A2 := Aside0.mk A20
 clear A20
 by_cases c3 : t410 = true
 · subst c3
   have H1 : (some true) = some r := by rw [if_pos rfl] at H; exact H
   clear H; have H := H1; clear H1; obtain rfl := Option.some.inj H
   go_enter Try.func7, Try.ntmps7
   go_wp2_with (first | ((with_reducible refine gate_callee (f := 24) rfl ?_); refine goesL_ (some 14) rfl rfl Try.func24 (by kernel_rfl) rfl #[.slice A0 l0.length c0] rfl (by (try simp only [List.map_toArray, List.map_cons, List.map_nil]); first | done | rfl | (simp only [List.length_drop, List.length_take]; rfl)) ?_; (with_reducible refine (laws_big.calls _ _ l0 true _ ?side1 ?side2 A2.out).mono ?_); (case side1 => repeat (first | exact HR0.out | (with_reducible refine Kd.C_alloc ?_ _) | (with_reducible refine Kd.C_drewN ?_ _) | (with_reducible refine Kd.C_drew ?_))); (case side2 => exact HC0.out); rintro e w' ⟨rfl, ⟨nd, rfl⟩⟩; refine ⟨_, rfl, ?_⟩))
   go_ret
   exact ⟨by first | rfl | (simp [errW_none, errW_some] <;> rfl) | (simp [*, errW_none, errW_some] <;> first | rfl | (simp [wrap64]; done)), nH HB.out⟩
 · replace c3 := Bool.eq_false_iff.mpr c3
   subst c3
   have H1 : ((spec_DrawRightChain.f k l0).bind fun bt411 => (if (bt411.2.1.length : Int) > 3 then (if 3 ≤ (bt411.2.1.length : Int) then (laws_FnDuty.j0 k l0 bt411.1 (bt411.2.1.take (3 : Int).toNat) bt411.2.2.1 bt411.2.2.2.1 bt411.2.2.2.2.1 bt411.2.2.2.2.2) else (none)) else (laws_FnDuty.j0 k l0 bt411.1 bt411.2.1 bt411.2.2.1 bt411.2.2.2.1 bt411.2.2.2.2.1 bt411.2.2.2.2.2))) = some r := by rw [if_neg (show ¬ (false = true) by decide)] at H; exact H
   clear H; have H := H1; clear H1
   replace H := Option.bind_eq_some_iff.mp H
   obtain ⟨⟨t411, t414, t417, t418, t419, t420⟩, A40, H⟩ := H
   replace H : (if (t414.length : Int) > 3 then (if 3 ≤ (t414.length : Int) then (laws_FnDuty.j0 k l0 t411 (t414.take (3 : Int).toNat) t417 t418 t419 t420) else (none)) else (laws_FnDuty.j0 k l0 t411 t414 t417 t418 t419 t420)) = some r := H
   have A4 := Aside0.mk A40
   clear A40
   have HC5 := Aside0.mk H
   clear H
   go_enter Try.func7, Try.ntmps7
   go_upto_if 24 with (first | ((with_reducible refine gate_callee (f := 24) rfl ?_); refine goesL_ (some 14) rfl rfl Try.func24 (by kernel_rfl) rfl #[.slice A0 l0.length c0] rfl (by (try simp only [List.map_toArray, List.map_cons, List.map_nil]); first | done | rfl | (simp only [List.length_drop, List.length_take]; rfl)) ?_; (with_reducible refine (laws_big.calls _ _ l0 false _ ?side1 ?side2 A2.out).mono ?_); (case side1 => repeat (first | exact HR0.out | (with_reducible refine Kd.C_alloc ?_ _) | (with_reducible refine Kd.C_drewN ?_ _) | (with_reducible refine Kd.C_drew ?_))); (case side2 => exact HC0.out); rintro e w' ⟨rfl, ⟨nd, rfl⟩⟩; refine ⟨_, rfl, ?_⟩) | ((with_reducible refine gate_callee (f := 25) rfl ?_); refine goesL_ (some 17) rfl rfl Try.func25 (by kernel_rfl) rfl #[.slice A0 l0.length c0] rfl (by (try simp only [List.map_toArray, List.map_cons, List.map_nil]); first | done | rfl | (simp only [List.length_drop, List.length_take]; rfl)) ?_; (with_reducible refine (spec_DrawRightChain.calls k _ _ l0 t411 t414 t417 t418 t419 t420 _ ?side1 ?side2 A4.out).mono ?_); (case side1 => repeat (first | exact HR0.out | (with_reducible refine Kd.C_alloc ?_ _) | (with_reducible refine Kd.C_drewN ?_ _) | (with_reducible refine Kd.C_drew ?_))); (case side2 => exact HC0.out); rintro e w6 ⟨v412, v415, rfl, ho0, ho1, hb⟩; refine ⟨_, rfl, ?_⟩; have n0_ := Aside0.mk (Kd.R_lower ho0 (below_size (nH HB.out))); have n1_ := Aside0.mk (Kd.R_lower ho1 (below_size (nH HB.out))); have n2_ := Aside0.mk (below_step (nH HB.out) hb); clear HB; have HO413 := n0_; have HO416 := n1_; have HB := n2_; clear n0_ n1_ n2_; (try clear hb); (try clear hb2); (try clear hk); (try clear hi); (try clear ho0); (try clear ho1)) | ((with_reducible refine gate_dst (N := 5) rfl ?_); refine box_event ?hg (N := 5) ?hd (cs := #[.int .i64 0, .int .i64 0, .int .i64 0, .int .i64 0]) (t := 25) ?hr ?_; (case hd => rfl); (case hg => rfl); (case hr => first | (go_simp; done) | (go_simp; rfl)); intro gb421 hg w7 hbox hb; have n0_ := Aside0.mk (Kd.R_below (nR HO413.out) hb); have n1_ := Aside0.mk (Kd.R_below (nR HO416.out) hb); have n2_ := Aside0.mk (below_step (nH HB.out) hb); have n3_ := Aside0.mk (hbox); have n4_ := Aside0.mk ((by rw [hg]; exact (below_size (nH HB.out)) : w.heap.size ≤ gb421)); have n5_ := Aside0.mk ((by rw [hg]; exact (below_size (nH HB.out)) : w.heap.size ≤ gb421)); clear HO413; clear HO416; clear HB; have HO413 := n0_; have HO416 := n1_; have HB := n2_; have BK421 := n3_; have GW421 := n4_; have GE421 := n5_; clear n0_ n1_ n2_ n3_ n4_ n5_; clear hb hbox hg; have hcz8_0 : w7.cell? ⟨gb421, 0, none⟩ = some (.int .i64 0) := (blk_cell BK421.out 0).trans rfl; have hcz8_1 : w7.cell? ⟨gb421, 1, none⟩ = some (.int .i64 0) := (blk_cell BK421.out 1).trans rfl; have hcz8_2 : w7.cell? ⟨gb421, 2, none⟩ = some (.int .i64 0) := (blk_cell BK421.out 2).trans rfl; have hcz8_3 : w7.cell? ⟨gb421, 3, none⟩ = some (.int .i64 0) := (blk_cell BK421.out 3).trans rfl; have hfz8_0 := blk_frozen BK421.out 0; have hfz8_1 := blk_frozen BK421.out 1; have hfz8_2 := blk_frozen BK421.out 2; have hfz8_3 := blk_frozen BK421.out 3) | ((with_reducible refine gate_store (t := 25) (p := 5) rfl ?_); refine store_event (t := 25) (p := 5) (v := ?vo_w9) (w1 := ((((w7.setCell ⟨gb421, 0, none⟩ (.int .i64 t417)).setCell ⟨gb421, 1, none⟩ (.int .i64 t418)).setCell ⟨gb421, 2, none⟩ (.int .i64 t419)).setCell ⟨gb421, 3, none⟩ (.int .i64 t420))) ?hg ?ho ?hn ?hr ?_; (case ho => rfl); (case hg => rfl); (case hn => rfl); (case hr => first | (go_simp; done) | (go_simp; rfl)); intro w9 hw; have n0_ : Aside0 (Kd.R k52 52 w9 w.heap.size (fun _ => True) v412 t411) := ⟨(by rw [hw]; exact (by (with_reducible repeat (first | apply Kd.R_alloc | apply Kd.R_drewN | apply Kd.R_drew)); exact Kd.R_mono (Kd.R_far (p := ⟨gb421, 3, none⟩) (Kd.R_far (p := ⟨gb421, 2, none⟩) (Kd.R_far (p := ⟨gb421, 1, none⟩) (Kd.R_far (p := ⟨gb421, 0, none⟩) (Kd.R_types HO413.out BK421.out (by decide)) (fun _ hk => hk.2) (.int .i64 t417)) (fun _ hk => hk.2) (.int .i64 t418)) (fun _ hk => hk.2) (.int .i64 t419)) (fun _ hk => hk.2) (.int .i64 t420)) (fun _ hk => trivial)))⟩; have n1_ : Aside0 (Kd.R (Kd.int .i64) 3 w9 w.heap.size (fun _ => True) v415 t414) := ⟨(by rw [hw]; exact (by (with_reducible repeat (first | apply Kd.R_alloc | apply Kd.R_drewN | apply Kd.R_drew)); exact Kd.R_mono (Kd.R_far (p := ⟨gb421, 3, none⟩) (Kd.R_far (p := ⟨gb421, 2, none⟩) (Kd.R_far (p := ⟨gb421, 1, none⟩) (Kd.R_far (p := ⟨gb421, 0, none⟩) (Kd.R_types HO416.out BK421.out (by decide)) (fun _ hk => hk.2) (.int .i64 t417)) (fun _ hk => hk.2) (.int .i64 t418)) (fun _ hk => hk.2) (.int .i64 t419)) (fun _ hk => hk.2) (.int .i64 t420)) (fun _ hk => trivial)))⟩; have n2_ : Aside0 (w9.heap[gb421]? = some (.cells #[.int .i64 t417, .int .i64 t418, .int .i64 t419, .int .i64 t420] 25 (0, 0))) := ⟨(by rw [hw]; exact (by (with_reducible repeat (first | refine blk_drewN ?_ _ | refine blk_drew ?_ | refine blk_alloc ?_ _)); refine blk_put (cs := #[.int .i64 t417, .int .i64 t418, .int .i64 t419, .int .i64 0]) ?_ 3 _ rfl; (with_reducible repeat (first | refine blk_drewN ?_ _ | refine blk_drew ?_ | refine blk_alloc ?_ _)); refine blk_put (cs := #[.int .i64 t417, .int .i64 t418, .int .i64 0, .int .i64 0]) ?_ 2 _ rfl; (with_reducible repeat (first | refine blk_drewN ?_ _ | refine blk_drew ?_ | refine blk_alloc ?_ _)); refine blk_put (cs := #[.int .i64 t417, .int .i64 0, .int .i64 0, .int .i64 0]) ?_ 1 _ rfl; (with_reducible repeat (first | refine blk_drewN ?_ _ | refine blk_drew ?_ | refine blk_alloc ?_ _)); refine blk_put (cs := #[.int .i64 0, .int .i64 0, .int .i64 0, .int .i64 0]) ?_ 0 _ rfl; (with_reducible repeat (first | refine blk_drewN ?_ _ | refine blk_drew ?_ | refine blk_alloc ?_ _)); exact BK421.out))⟩; have n3_ : Aside0 (Below w.heap.size w w9) := ⟨(by rw [hw]; exact (nH1 HB.out GE421.out))⟩; clear hw; clear HO413; clear HO416; clear BK421; clear HB; have HO413 := n0_; have HO416 := n1_; have BK421 := n2_; have HB := n3_; clear n0_ n1_ n2_ n3_; obtain ⟨Ao10, co10, eo10⟩ := Kd.R_slice HO416.out; subst eo10))
   (try simp only [Act.put, List.setIfInBounds_toArray, List.set_cons_zero, List.set_cons_succ])
   go_cut [6] (fun v6 wc => ∃ (kq : Nat) (x6_4 : List Int), Aside0 (laws_FnDuty.j0 kq l0 t411 x6_4 t417 t418 t419 t420 = some r) ∧ Aside0 (kq ≤ k) ∧ Aside0 (Kd.R k52 52 wc w.heap.size (fun _ => True) v412 t411) ∧ Aside0 (Kd.R (Kd.int .i64) 3 wc w.heap.size (fun _ => True) v6 x6_4) ∧ Aside0 (wc.heap[gb421]? = some (.cells #[.int .i64 t417, .int .i64 t418, .int .i64 t419, .int .i64 t420] 25 (0, 0))) ∧ Aside0 (Below w.heap.size w wc))
   case first =>
    have H := HC5.out; clear HC5
    by_cases c11 : (t414.length : Int) > 3
    · rw [if_pos c11] at H
      have c11b0 : decide (3 < (t414.length : Int)) = true := decide_eq_true c11
      have c11b1 : decide (3 < t414.length) = true := decide_eq_true (by omega)
      clear c11
      (first | rw [c11b0] | (simp only [i64_w, i32_w]; rw [c11b0]) | skip)
      by_cases c12 : 3 ≤ (t414.length : Int)
      rotate_left
      · (rw [if_neg c12] at H; exact absurd H (by simp))
      rw [if_pos c12] at H
      have c12b0 := eq_true c12
      have c12b1 : decide (3 ≤ (t414.length : Int)) = true := decide_eq_true c12
      clear c12
      obtain ⟨y422, hy422⟩ : ∃ y_ : List Int, y_ = (t414.take (3 : Int).toNat) := ⟨_, rfl⟩
      replace H : (laws_FnDuty.j0 k l0 t411 y422 t417 t418 t419 t420) = some r := by first | (rw [hy422]; with_reducible exact H) | (have H2_ := (Option.bind_some _ _).symm.trans H; rw [hy422]; with_reducible exact H2_) | (have H2_ := (Option.bind_some _ _).symm.trans H; with_reducible exact H2_) | with_reducible exact H | (rw [hy422]; exact H) | exact H
      have Ny422 := Aside0.mk hy422
      clear hy422
      have H' := Aside0.mk H
      clear H
      have q13 : (3 : Int) ≤ ((t414.length : Int) : Int) := of_decide_eq_true nQ
      obtain ⟨i013, hi013, _, hsz13, _⟩ := info_parts info3
      have hcut13 := cut_to (P := Try.prog) 29 3 .i64 Try.underlying29 hi013 Ao10 t414.length co10 3 (by omega) q13 (Kd.R_reads' HO416.out).2.1
      have hr13 := Kd.R_take (m := (3 : Int).toNat) HO416.out (by omega)
      have hy13 : y422.length = (3 : Int).toNat := (by rw [Ny422.out, List.length_take]; omega)
      rw [← Ny422.out] at hr13
      rw [← hy13] at hr13 hcut13
      clear hy13 hi013 hsz13 HO416
      have HO424 := Aside0.mk hr13
      clear hr13; replace q13 := eq_true q13; go_wp2
      go_meet
      case rel => exact ⟨_, (y422), H', ⟨by first | omega | exact Nat.le_refl _⟩, ⟨by (with_reducible repeat (first | apply Kd.R_alloc | apply Kd.R_drewN | apply Kd.R_drew)); exact HO413.out⟩, ⟨by (with_reducible repeat (first | apply Kd.R_alloc | apply Kd.R_drewN | apply Kd.R_drew)); exact HO424.out⟩, ⟨by (with_reducible repeat (first | refine blk_drewN ?_ _ | refine blk_drew ?_ | refine blk_alloc ?_ _)); exact BK421.out⟩, ⟨nH1 HB.out GE421.out⟩⟩
    · rw [if_neg c11] at H
      have c11b0 : decide (3 < (t414.length : Int)) = false := decide_eq_false c11
      have c11b1 : decide (3 < t414.length) = false := decide_eq_false (by omega)
      clear c11
      (first | rw [c11b0] | (simp only [i64_w, i32_w]; rw [c11b0]) | skip)
      have H' := Aside0.mk H
      clear H; go_wp2
      go_meet
      case rel => exact ⟨_, (t414), H', ⟨by first | omega | exact Nat.le_refl _⟩, ⟨by (with_reducible repeat (first | apply Kd.R_alloc | apply Kd.R_drewN | apply Kd.R_drew)); exact HO413.out⟩, ⟨by (with_reducible repeat (first | apply Kd.R_alloc | apply Kd.R_drewN | apply Kd.R_drew)); exact HO416.out⟩, ⟨by (with_reducible repeat (first | refine blk_drewN ?_ _ | refine blk_drew ?_ | refine blk_alloc ?_ _)); exact BK421.out⟩, ⟨nH1 HB.out GE421.out⟩⟩
   case rest =>
    clear HC5; try clear c1; try clear q1; try clear c2; try clear p2; try clear c3; try clear p6; try clear c7; try clear c11; try clear c11b0; try clear c11b1; try clear c12; try clear c12b0; try clear c12b1; try clear q13; try clear hcz8_0; try clear hcz8_1; try clear hcz8_2; try clear hcz8_3; try clear hfz8_0; try clear hfz8_1; try clear hfz8_2; try clear hfz8_3; try clear q13
    obtain ⟨kq, x6_4, HA, HJ4, HO_3, HO_6, BK421, HB⟩ := hcut
    cases kq with
    | zero => exact absurd HA.out (by simp [laws_FnDuty.j0])
    | succ kj4 =>
     have H := HA.out; clear HA
     simp only [laws_FnDuty.j0] at H
     replace H := Option.bind_eq_some_iff.mp H
     obtain ⟨t425, A140, H⟩ := H
     replace H : ((impl_Stretched.f kj4 t411 x6_4 t419).bind fun t426 => (if t425 < 0 then (laws_FnDuty.j1 kj4 l0 t411 x6_4 t425 true t417 t418 t419 t420) else (if t426 < 1 then (laws_FnDuty.j1 kj4 l0 t411 x6_4 t425 true t417 t418 t419 t420) else (if t426 > t425 then (laws_FnDuty.j1 kj4 l0 t411 x6_4 t425 true t417 t418 t419 t420) else ((impl_Stretched.f kj4 t411 x6_4 1440).bind fun t427 => (if t427 = t425 then ((spec_Stretched.f kj4 t411 x6_4 t419).bind fun t428 => (laws_FnDuty.j1 kj4 l0 t411 x6_4 t425 (t426 != t428) t417 t418 t419 t420)) else (laws_FnDuty.j1 kj4 l0 t411 x6_4 t425 true t417 t418 t419 t420))))))) = some r := H
     have A14 := Aside0.mk A140
     clear A140
     replace H := Option.bind_eq_some_iff.mp H
     obtain ⟨t426, A150, H⟩ := H
     replace H : (if t425 < 0 then (laws_FnDuty.j1 kj4 l0 t411 x6_4 t425 true t417 t418 t419 t420) else (if t426 < 1 then (laws_FnDuty.j1 kj4 l0 t411 x6_4 t425 true t417 t418 t419 t420) else (if t426 > t425 then (laws_FnDuty.j1 kj4 l0 t411 x6_4 t425 true t417 t418 t419 t420) else ((impl_Stretched.f kj4 t411 x6_4 1440).bind fun t427 => (if t427 = t425 then ((spec_Stretched.f kj4 t411 x6_4 t419).bind fun t428 => (laws_FnDuty.j1 kj4 l0 t411 x6_4 t425 (t426 != t428) t417 t418 t419 t420)) else (laws_FnDuty.j1 kj4 l0 t411 x6_4 t425 true t417 t418 t419 t420)))))) = some r := H
     have A15 := Aside0.mk A150
     clear A150
     have HC16 := Aside0.mk H
     clear H
     obtain ⟨Ao17, co17, eo17⟩ := Kd.R_slice HO_3.out
     subst eo17
     obtain ⟨Ao18, co18, eo18⟩ := Kd.R_slice HO_6.out
     subst eo18
     go_upto_region 9 with (first | ((with_reducible refine gate_callee (f := 17) rfl ?_); refine goesL_ (some 29) rfl rfl Try.func17 (by kernel_rfl) rfl #[.slice Ao17 t411.length co17, .slice Ao18 x6_4.length co18] rfl (by (try simp only [List.map_toArray, List.map_cons, List.map_nil]); first | done | rfl | (simp only [List.length_drop, List.length_take]; rfl)) ?_; (with_reducible refine (impl_Driven.calls kj4 _ _ t411 _ _ x6_4 t425 _ ?side1 ?side2 ?side3 ?side4 A14.out).mono ?_); (case side1 => repeat (first | exact (Kd.R_reads' HO_3.out).2.2 | (with_reducible refine Kd.C_alloc ?_ _) | (with_reducible refine Kd.C_drewN ?_ _) | (with_reducible refine Kd.C_drew ?_))); (case side2 => exact (Kd.R_reads' HO_3.out).2.1); (case side3 => repeat (first | exact (Kd.R_reads' HO_6.out).2.2 | (with_reducible refine Kd.C_alloc ?_ _) | (with_reducible refine Kd.C_drewN ?_ _) | (with_reducible refine Kd.C_drew ?_))); (case side4 => exact (Kd.R_reads' HO_6.out).2.1); rintro e w19 ⟨rfl, hb⟩; refine ⟨_, rfl, ?_⟩; have n0_ := Aside0.mk (Kd.R_below (nR HO_3.out) hb); have n1_ := Aside0.mk (Kd.R_below (nR HO_6.out) hb); have n2_ := Aside0.mk (blk_below (g := gb421) (o := .cells #[.int .i64 t417, .int .i64 t418, .int .i64 t419, .int .i64 t420] 25 (0, 0)) (nB BK421.out) hb); have n3_ := Aside0.mk (below_step (nH1 HB.out GE421.out) hb); clear HO_3; clear HO_6; clear BK421; clear HB; have HO_3 := n0_; have HO_6 := n1_; have BK421 := n2_; have HB := n3_; clear n0_ n1_ n2_ n3_; (try clear hb); (try clear hb2); (try clear hk); (try clear hi); have hcz20_0 : w19.cell? ⟨gb421, 0, none⟩ = some (.int .i64 t417) := (blk_cell BK421.out 0).trans rfl; have hcz20_1 : w19.cell? ⟨gb421, 1, none⟩ = some (.int .i64 t418) := (blk_cell BK421.out 1).trans rfl; have hcz20_2 : w19.cell? ⟨gb421, 2, none⟩ = some (.int .i64 t419) := (blk_cell BK421.out 2).trans rfl; have hcz20_3 : w19.cell? ⟨gb421, 3, none⟩ = some (.int .i64 t420) := (blk_cell BK421.out 3).trans rfl; have hfz20_0 := blk_frozen BK421.out 0; have hfz20_1 := blk_frozen BK421.out 1; have hfz20_2 := blk_frozen BK421.out 2; have hfz20_3 := blk_frozen BK421.out 3) | ((with_reducible refine gate_callee (f := 21) rfl ?_); refine goesL_ (some 34) rfl rfl Try.func21 (by kernel_rfl) rfl #[.slice Ao17 t411.length co17, .slice Ao18 x6_4.length co18, .int .i64 t419] rfl (by (try simp only [List.map_toArray, List.map_cons, List.map_nil]); first | done | rfl | (simp only [List.length_drop, List.length_take]; rfl)) ?_; (with_reducible refine (impl_Stretched.calls kj4 _ _ t411 _ _ x6_4 t419 t426 _ ?side1 ?side2 ?side3 ?side4 A15.out).mono ?_); (case side1 => repeat (first | exact (Kd.R_reads' HO_3.out).2.2 | (with_reducible refine Kd.C_alloc ?_ _) | (with_reducible refine Kd.C_drewN ?_ _) | (with_reducible refine Kd.C_drew ?_))); (case side2 => exact (Kd.R_reads' HO_3.out).2.1); (case side3 => repeat (first | exact (Kd.R_reads' HO_6.out).2.2 | (with_reducible refine Kd.C_alloc ?_ _) | (with_reducible refine Kd.C_drewN ?_ _) | (with_reducible refine Kd.C_drew ?_))); (case side4 => exact (Kd.R_reads' HO_6.out).2.1); rintro e w21 ⟨rfl, hb⟩; refine ⟨_, rfl, ?_⟩; have n0_ := Aside0.mk (Kd.R_below (nR HO_3.out) hb); have n1_ := Aside0.mk (Kd.R_below (nR HO_6.out) hb); have n2_ := Aside0.mk (blk_below (g := gb421) (o := .cells #[.int .i64 t417, .int .i64 t418, .int .i64 t419, .int .i64 t420] 25 (0, 0)) (nB BK421.out) hb); have n3_ := Aside0.mk (below_step (nH1 HB.out GE421.out) hb); clear HO_3; clear HO_6; clear BK421; clear HB; have HO_3 := n0_; have HO_6 := n1_; have BK421 := n2_; have HB := n3_; clear n0_ n1_ n2_ n3_; (try clear hb); (try clear hb2); (try clear hk); (try clear hi)))
     (try simp only [Act.put, List.setIfInBounds_toArray, List.set_cons_zero, List.set_cons_succ])
     go_cut [61] (fun v61 wc => ∃ (kq : Nat) (x61_15 : Bool), v61 = .bool x61_15 ∧ Aside0 (laws_FnDuty.j1 kq l0 t411 x6_4 t425 x61_15 t417 t418 t419 t420 = some r) ∧ Aside0 (kq ≤ kj4) ∧ Aside0 (Kd.R k52 52 wc w.heap.size (fun _ => True) (.slice Ao17 t411.length co17) t411) ∧ Aside0 (Kd.R (Kd.int .i64) 3 wc w.heap.size (fun _ => True) (.slice Ao18 x6_4.length co18) x6_4) ∧ Aside0 (wc.heap[gb421]? = some (.cells #[.int .i64 t417, .int .i64 t418, .int .i64 t419, .int .i64 t420] 25 (0, 0))) ∧ Aside0 (Below w.heap.size w wc))
     case first =>
      have H := HC16.out; clear HC16
      by_cases c22 : t425 < 0
      · rw [if_pos c22] at H
        have c22b0 : decide (t425 < 0) = true := decide_eq_true c22
        clear c22
        (first | rw [c22b0] | (simp only [i64_w, i32_w]; rw [c22b0]) | skip)
        have H' := Aside0.mk H
        clear H; go_wp2
        go_meet
        case rel => exact ⟨_, (true), nS, H', ⟨by have := HJ4.out; first | omega | exact Nat.le_refl _⟩, ⟨by (with_reducible repeat (first | apply Kd.R_alloc | apply Kd.R_drewN | apply Kd.R_drew)); exact HO_3.out⟩, ⟨by (with_reducible repeat (first | apply Kd.R_alloc | apply Kd.R_drewN | apply Kd.R_drew)); exact HO_6.out⟩, ⟨by (with_reducible repeat (first | refine blk_drewN ?_ _ | refine blk_drew ?_ | refine blk_alloc ?_ _)); exact BK421.out⟩, ⟨nH1 HB.out GE421.out⟩⟩
      · rw [if_neg c22] at H
        have c22b0 : decide (t425 < 0) = false := decide_eq_false c22
        clear c22
        (first | rw [c22b0] | (simp only [i64_w, i32_w]; rw [c22b0]) | skip)
        by_cases c23 : t426 < 1
        · rw [if_pos c23] at H
          have c23b0 : decide (t426 < 1) = true := decide_eq_true c23
          clear c23
          have H' := Aside0.mk H
          clear H; go_wp2
          go_meet
          case rel => exact ⟨_, (true), nS, H', ⟨by have := HJ4.out; first | omega | exact Nat.le_refl _⟩, ⟨by (with_reducible repeat (first | apply Kd.R_alloc | apply Kd.R_drewN | apply Kd.R_drew)); exact HO_3.out⟩, ⟨by (with_reducible repeat (first | apply Kd.R_alloc | apply Kd.R_drewN | apply Kd.R_drew)); exact HO_6.out⟩, ⟨by (with_reducible repeat (first | refine blk_drewN ?_ _ | refine blk_drew ?_ | refine blk_alloc ?_ _)); exact BK421.out⟩, ⟨nH1 HB.out GE421.out⟩⟩
        · rw [if_neg c23] at H
          have c23b0 : decide (t426 < 1) = false := decide_eq_false c23
          clear c23
          by_cases c24 : t426 > t425
          · rw [if_pos c24] at H
            have c24b0 : decide (t425 < t426) = true := decide_eq_true c24
            clear c24
            have H' := Aside0.mk H
            clear H; go_wp2
            go_meet
            case rel => exact ⟨_, (true), nS, H', ⟨by have := HJ4.out; first | omega | exact Nat.le_refl _⟩, ⟨by (with_reducible repeat (first | apply Kd.R_alloc | apply Kd.R_drewN | apply Kd.R_drew)); exact HO_3.out⟩, ⟨by (with_reducible repeat (first | apply Kd.R_alloc | apply Kd.R_drewN | apply Kd.R_drew)); exact HO_6.out⟩, ⟨by (with_reducible repeat (first | refine blk_drewN ?_ _ | refine blk_drew ?_ | refine blk_alloc ?_ _)); exact BK421.out⟩, ⟨nH1 HB.out GE421.out⟩⟩
          · rw [if_neg c24] at H
            have c24b0 : decide (t425 < t426) = false := decide_eq_false c24
            clear c24
            replace H := Option.bind_eq_some_iff.mp H
            obtain ⟨t427, A250, H⟩ := H
            replace H : (if t427 = t425 then ((spec_Stretched.f kj4 t411 x6_4 t419).bind fun t428 => (laws_FnDuty.j1 kj4 l0 t411 x6_4 t425 (t426 != t428) t417 t418 t419 t420)) else (laws_FnDuty.j1 kj4 l0 t411 x6_4 t425 true t417 t418 t419 t420)) = some r := H
            have A25 := Aside0.mk A250
            clear A250
            by_cases c26 : t427 = t425
            · rw [if_pos c26] at H
              have c26b0 : (t427 == t425) = true := beq_iff_eq.mpr c26
              have c26b1 : (t427 != t425) = false := bne_eq_false_iff_eq.mpr c26
              clear c26
              replace H := Option.bind_eq_some_iff.mp H
              obtain ⟨t428, A270, H⟩ := H
              replace H : (laws_FnDuty.j1 kj4 l0 t411 x6_4 t425 (t426 != t428) t417 t418 t419 t420) = some r := H
              have A27 := Aside0.mk A270
              clear A270
              have H' := Aside0.mk H
              clear H
              go_wp2_with (first | (go_at_call 21; (with_reducible refine (impl_Stretched.calls kj4 _ _ t411 _ _ x6_4 1440 t427 _ ?side1 ?side2 ?side3 ?side4 A25.out).mono ?_); (case side1 => repeat (first | exact (Kd.R_reads' HO_3.out).2.2 | (with_reducible refine Kd.C_alloc ?_ _) | (with_reducible refine Kd.C_drewN ?_ _) | (with_reducible refine Kd.C_drew ?_))); (case side2 => exact (Kd.R_reads' HO_3.out).2.1); (case side3 => repeat (first | exact (Kd.R_reads' HO_6.out).2.2 | (with_reducible refine Kd.C_alloc ?_ _) | (with_reducible refine Kd.C_drewN ?_ _) | (with_reducible refine Kd.C_drew ?_))); (case side4 => exact (Kd.R_reads' HO_6.out).2.1); rintro e w28 ⟨rfl, hb⟩; have n0_ := Aside0.mk (Kd.R_below (nR HO_3.out) hb); have n1_ := Aside0.mk (Kd.R_below (nR HO_6.out) hb); have n2_ := Aside0.mk (blk_below (g := gb421) (o := .cells #[.int .i64 t417, .int .i64 t418, .int .i64 t419, .int .i64 t420] 25 (0, 0)) (nB BK421.out) hb); have n3_ := Aside0.mk (below_step (nH1 HB.out GE421.out) hb); clear HO_3; clear HO_6; clear BK421; clear HB; have HO_3 := n0_; have HO_6 := n1_; have BK421 := n2_; have HB := n3_; clear n0_ n1_ n2_ n3_; (try clear hb); (try clear hb2); (try clear hk); (try clear hi); have hcz29_0 : w28.cell? ⟨gb421, 0, none⟩ = some (.int .i64 t417) := (blk_cell BK421.out 0).trans rfl; have hcz29_1 : w28.cell? ⟨gb421, 1, none⟩ = some (.int .i64 t418) := (blk_cell BK421.out 1).trans rfl; have hcz29_2 : w28.cell? ⟨gb421, 2, none⟩ = some (.int .i64 t419) := (blk_cell BK421.out 2).trans rfl; have hcz29_3 : w28.cell? ⟨gb421, 3, none⟩ = some (.int .i64 t420) := (blk_cell BK421.out 3).trans rfl; have hfz29_0 := blk_frozen BK421.out 0; have hfz29_1 := blk_frozen BK421.out 1; have hfz29_2 := blk_frozen BK421.out 2; have hfz29_3 := blk_frozen BK421.out 3) | (go_at_call 20; (with_reducible refine (spec_Stretched.calls kj4 _ _ t411 _ _ x6_4 t419 t428 _ ?side1 ?side2 ?side3 ?side4 A27.out).mono ?_); (case side1 => repeat (first | exact (Kd.R_reads' HO_3.out).2.2 | (with_reducible refine Kd.C_alloc ?_ _) | (with_reducible refine Kd.C_drewN ?_ _) | (with_reducible refine Kd.C_drew ?_))); (case side2 => exact (Kd.R_reads' HO_3.out).2.1); (case side3 => repeat (first | exact (Kd.R_reads' HO_6.out).2.2 | (with_reducible refine Kd.C_alloc ?_ _) | (with_reducible refine Kd.C_drewN ?_ _) | (with_reducible refine Kd.C_drew ?_))); (case side4 => exact (Kd.R_reads' HO_6.out).2.1); rintro e w30 ⟨rfl, hb⟩; have n0_ := Aside0.mk (Kd.R_below (nR HO_3.out) hb); have n1_ := Aside0.mk (Kd.R_below (nR HO_6.out) hb); have n2_ := Aside0.mk (blk_below (g := gb421) (o := .cells #[.int .i64 t417, .int .i64 t418, .int .i64 t419, .int .i64 t420] 25 (0, 0)) (nB BK421.out) hb); have n3_ := Aside0.mk (below_step (nH1 HB.out GE421.out) hb); clear HO_3; clear HO_6; clear BK421; clear HB; have HO_3 := n0_; have HO_6 := n1_; have BK421 := n2_; have HB := n3_; clear n0_ n1_ n2_ n3_; (try clear hb); (try clear hb2); (try clear hk); (try clear hi)))
              go_meet
              case rel => exact ⟨_, ((t426 != t428)), nS, H', ⟨by have := HJ4.out; first | omega | exact Nat.le_refl _⟩, ⟨by (with_reducible repeat (first | apply Kd.R_alloc | apply Kd.R_drewN | apply Kd.R_drew)); exact HO_3.out⟩, ⟨by (with_reducible repeat (first | apply Kd.R_alloc | apply Kd.R_drewN | apply Kd.R_drew)); exact HO_6.out⟩, ⟨by (with_reducible repeat (first | refine blk_drewN ?_ _ | refine blk_drew ?_ | refine blk_alloc ?_ _)); exact BK421.out⟩, ⟨nH1 HB.out GE421.out⟩⟩
            · rw [if_neg c26] at H
              have c26b0 : (t427 == t425) = false := beq_eq_false_iff_ne.mpr c26
              have c26b1 : (t427 != t425) = true := bne_iff_ne.mpr c26
              have H' := Aside0.mk H
              clear H
              go_wp2_with (first | (go_at_call 21; (with_reducible refine (impl_Stretched.calls kj4 _ _ t411 _ _ x6_4 1440 t427 _ ?side1 ?side2 ?side3 ?side4 A25.out).mono ?_); (case side1 => repeat (first | exact (Kd.R_reads' HO_3.out).2.2 | (with_reducible refine Kd.C_alloc ?_ _) | (with_reducible refine Kd.C_drewN ?_ _) | (with_reducible refine Kd.C_drew ?_))); (case side2 => exact (Kd.R_reads' HO_3.out).2.1); (case side3 => repeat (first | exact (Kd.R_reads' HO_6.out).2.2 | (with_reducible refine Kd.C_alloc ?_ _) | (with_reducible refine Kd.C_drewN ?_ _) | (with_reducible refine Kd.C_drew ?_))); (case side4 => exact (Kd.R_reads' HO_6.out).2.1); rintro e w31 ⟨rfl, hb⟩; have n0_ := Aside0.mk (Kd.R_below (nR HO_3.out) hb); have n1_ := Aside0.mk (Kd.R_below (nR HO_6.out) hb); have n2_ := Aside0.mk (blk_below (g := gb421) (o := .cells #[.int .i64 t417, .int .i64 t418, .int .i64 t419, .int .i64 t420] 25 (0, 0)) (nB BK421.out) hb); have n3_ := Aside0.mk (below_step (nH1 HB.out GE421.out) hb); clear HO_3; clear HO_6; clear BK421; clear HB; have HO_3 := n0_; have HO_6 := n1_; have BK421 := n2_; have HB := n3_; clear n0_ n1_ n2_ n3_; (try clear hb); (try clear hb2); (try clear hk); (try clear hi)))
              go_meet
              case rel => exact ⟨_, (true), nS, H', ⟨by have := HJ4.out; first | omega | exact Nat.le_refl _⟩, ⟨by (with_reducible repeat (first | apply Kd.R_alloc | apply Kd.R_drewN | apply Kd.R_drew)); exact HO_3.out⟩, ⟨by (with_reducible repeat (first | apply Kd.R_alloc | apply Kd.R_drewN | apply Kd.R_drew)); exact HO_6.out⟩, ⟨by (with_reducible repeat (first | refine blk_drewN ?_ _ | refine blk_drew ?_ | refine blk_alloc ?_ _)); exact BK421.out⟩, ⟨nH1 HB.out GE421.out⟩⟩
     case rest =>
      clear HC16; try clear c1; try clear q1; try clear c2; try clear p2; try clear c3; try clear p6; try clear c7; try clear c11; try clear c11b0; try clear c11b1; try clear c12; try clear c12b0; try clear c12b1; try clear q13; try clear c17; try clear c21; try clear c22; try clear c22b0; try clear c23; try clear c23b0; try clear c24; try clear c24b0; try clear c25; try clear c26; try clear c26b0; try clear c26b1; try clear hcz20_0; try clear hcz20_1; try clear hcz20_2; try clear hcz20_3; try clear hcz29_0; try clear hcz29_1; try clear hcz29_2; try clear hcz29_3; try clear hcz8_0; try clear hcz8_1
      try clear hcz8_2; try clear hcz8_3; try clear hfz20_0; try clear hfz20_1; try clear hfz20_2; try clear hfz20_3; try clear hfz29_0; try clear hfz29_1; try clear hfz29_2; try clear hfz29_3; try clear hfz8_0; try clear hfz8_1; try clear hfz8_2; try clear hfz8_3; try clear p2; try clear p6; try clear q1; try clear q13
      obtain ⟨kq, x61_15, rfl, HA, HJ15, HO_3, HO_6, BK421, HB⟩ := hcut
      cases kq with
      | zero => exact absurd HA.out (by simp [laws_FnDuty.j1])
      | succ kj15 =>
       have H := HA.out; clear HA
       simp only [laws_FnDuty.j1] at H
       by_cases c32 : x61_15 = true
       · subst c32
         have H1 : (some false) = some r := by rw [if_pos rfl] at H; exact H
         clear H; have H := H1; clear H1
         exact absurd ((Option.some.inj H).trans ht.out) (by decide)
       · replace c32 := Bool.eq_false_iff.mpr c32
         subst c32
         have H1 : ((impl_DutyCode.f kj15 t411 x6_4 t417 t418 t419 t420).bind fun t430 => ((spec_DutyCode.f kj15 t411 x6_4 t417 t418 t419 t420).bind fun t431 => (if t430 = t431 then ((impl_DutyCode.f kj15 t411 x6_4 1440 1440 1 1440).bind fun t432 => (laws_FnDuty.j2 kj15 l0 t411 x6_4 t425 t430 (t432 != 0) t417 t418 t419 t420)) else (laws_FnDuty.j2 kj15 l0 t411 x6_4 t425 t430 true t417 t418 t419 t420)))) = some r := by rw [if_neg (show ¬ (false = true) by decide)] at H; exact H
         clear H; have H := H1; clear H1
         replace H := Option.bind_eq_some_iff.mp H
         obtain ⟨t430, A330, H⟩ := H
         replace H : ((spec_DutyCode.f kj15 t411 x6_4 t417 t418 t419 t420).bind fun t431 => (if t430 = t431 then ((impl_DutyCode.f kj15 t411 x6_4 1440 1440 1 1440).bind fun t432 => (laws_FnDuty.j2 kj15 l0 t411 x6_4 t425 t430 (t432 != 0) t417 t418 t419 t420)) else (laws_FnDuty.j2 kj15 l0 t411 x6_4 t425 t430 true t417 t418 t419 t420))) = some r := H
         have A33 := Aside0.mk A330
         clear A330
         have HC34 := Aside0.mk H
         clear H
         go_upto_region 13 with (first | ((with_reducible refine gate_dst (N := 9) rfl ?_); refine box_event ?hg (N := 9) ?hd (cs := #[.int .i64 0, .int .i64 0, .int .i64 0, .int .i64 0]) (t := 25) ?hr ?_; (case hd => rfl); (case hg => rfl); (case hr => first | (go_simp; done) | (go_simp; rfl)); intro gb429 hg w35 hbox hb; have n0_ := Aside0.mk (Kd.R_below (nR HO_3.out) hb); have n1_ := Aside0.mk (Kd.R_below (nR HO_6.out) hb); have n2_ := Aside0.mk (blk_below (g := gb421) (o := .cells #[.int .i64 t417, .int .i64 t418, .int .i64 t419, .int .i64 t420] 25 (0, 0)) (nB BK421.out) hb); have n3_ := Aside0.mk (below_step (nH1 HB.out GE421.out) hb); have n4_ := Aside0.mk (hbox); have n5_ := Aside0.mk ((by rw [hg]; exact (below_size (nH1 HB.out GE421.out)) : w.heap.size ≤ gb429)); have n6_ := Aside0.mk ((by rw [hg]; exact (below_size (nH1 HB.out GE421.out)) : w.heap.size ≤ gb429)); have n7_ := Aside0.mk ((by rw [hg]; exact Nat.ne_of_lt (blk_lt (g := gb421) (o := .cells #[.int .i64 t417, .int .i64 t418, .int .i64 t419, .int .i64 t420] 25 (0, 0)) (nB BK421.out)) : gb421 ≠ gb429)); have n8_ := Aside0.mk ((by rw [hg]; exact Nat.ne_of_gt (blk_lt (g := gb421) (o := .cells #[.int .i64 t417, .int .i64 t418, .int .i64 t419, .int .i64 t420] 25 (0, 0)) (nB BK421.out)) : gb429 ≠ gb421)); clear HO_3; clear HO_6; clear BK421; clear HB; have HO_3 := n0_; have HO_6 := n1_; have BK421 := n2_; have HB := n3_; have BK429 := n4_; have GW429 := n5_; have GE429 := n6_; have NB421_429 := n7_; have NB429_421 := n8_; clear n0_ n1_ n2_ n3_ n4_ n5_ n6_ n7_ n8_; clear hb hbox hg; have hnb36 := NB429_421.out; have hnc36 := NB421_429.out; have hcz37_0 : w35.cell? ⟨gb429, 0, none⟩ = some (.int .i64 0) := (blk_cell BK429.out 0).trans rfl; have hcz37_1 : w35.cell? ⟨gb429, 1, none⟩ = some (.int .i64 0) := (blk_cell BK429.out 1).trans rfl; have hcz37_2 : w35.cell? ⟨gb429, 2, none⟩ = some (.int .i64 0) := (blk_cell BK429.out 2).trans rfl; have hcz37_3 : w35.cell? ⟨gb429, 3, none⟩ = some (.int .i64 0) := (blk_cell BK429.out 3).trans rfl; have hfz37_0 := blk_frozen BK429.out 0; have hfz37_1 := blk_frozen BK429.out 1; have hfz37_2 := blk_frozen BK429.out 2; have hfz37_3 := blk_frozen BK429.out 3; have hcz38_0 : w35.cell? ⟨gb421, 0, none⟩ = some (.int .i64 t417) := (blk_cell BK421.out 0).trans rfl; have hcz38_1 : w35.cell? ⟨gb421, 1, none⟩ = some (.int .i64 t418) := (blk_cell BK421.out 1).trans rfl; have hcz38_2 : w35.cell? ⟨gb421, 2, none⟩ = some (.int .i64 t419) := (blk_cell BK421.out 2).trans rfl; have hcz38_3 : w35.cell? ⟨gb421, 3, none⟩ = some (.int .i64 t420) := (blk_cell BK421.out 3).trans rfl; have hfz38_0 := blk_frozen BK421.out 0; have hfz38_1 := blk_frozen BK421.out 1; have hfz38_2 := blk_frozen BK421.out 2; have hfz38_3 := blk_frozen BK421.out 3) | ((with_reducible refine gate_callee (f := 23) rfl ?_); refine goesL_ (some 66) rfl rfl Try.func23 (by kernel_rfl) rfl #[.slice Ao17 t411.length co17, .slice Ao18 x6_4.length co18, .agg #[.int .i64 t417, .int .i64 t418, .int .i64 t419, .int .i64 t420]] rfl (by (try simp only [List.map_toArray, List.map_cons, List.map_nil]); first | done | rfl | (simp only [List.length_drop, List.length_take]; rfl)) ?_; (with_reducible refine (impl_DutyCode.calls kj15 _ _ t411 _ _ x6_4 t417 t418 t419 t420 t430 _ ?side1 ?side2 ?side3 ?side4 A33.out).mono ?_); (case side1 => refine (Kd.R_reads' (e := 52) (base := w.heap.size) (ok := fun k_ => True) (n := t411.length) (c := co17) ?_).2.2; exact (by (with_reducible repeat (first | apply Kd.R_alloc | apply Kd.R_drewN | apply Kd.R_drew)); exact (Kd.R_mono (Kd.R_far (p := ⟨gb429, 3, none⟩) (Kd.R_far (p := ⟨gb429, 2, none⟩) (Kd.R_far (p := ⟨gb429, 1, none⟩) (Kd.R_far (p := ⟨gb429, 0, none⟩) (Kd.R_types HO_3.out BK429.out (by decide)) (fun _ hk => hk.2) (.int .i64 1440)) (fun _ hk => hk.2) (.int .i64 1440)) (fun _ hk => hk.2) (.int .i64 1)) (fun _ hk => hk.2) (.int .i64 1440)) (fun _ h_ => h_.1)))); (case side2 => exact (Kd.R_reads' HO_3.out).2.1); (case side3 => refine (Kd.R_reads' (e := 3) (base := w.heap.size) (ok := fun k_ => True) (n := x6_4.length) (c := co18) ?_).2.2; exact (by (with_reducible repeat (first | apply Kd.R_alloc | apply Kd.R_drewN | apply Kd.R_drew)); exact (Kd.R_mono (Kd.R_far (p := ⟨gb429, 3, none⟩) (Kd.R_far (p := ⟨gb429, 2, none⟩) (Kd.R_far (p := ⟨gb429, 1, none⟩) (Kd.R_far (p := ⟨gb429, 0, none⟩) (Kd.R_types HO_6.out BK429.out (by decide)) (fun _ hk => hk.2) (.int .i64 1440)) (fun _ hk => hk.2) (.int .i64 1440)) (fun _ hk => hk.2) (.int .i64 1)) (fun _ hk => hk.2) (.int .i64 1440)) (fun _ h_ => h_.1)))); (case side4 => exact (Kd.R_reads' HO_6.out).2.1); rintro e w39 ⟨rfl, hb⟩; refine ⟨_, rfl, ?_⟩; have n0_ := Aside0.mk (Kd.R_below (by (with_reducible repeat (first | apply Kd.R_alloc | apply Kd.R_drewN | apply Kd.R_drew)); exact (Kd.R_mono (Kd.R_far (p := ⟨gb429, 3, none⟩) (Kd.R_far (p := ⟨gb429, 2, none⟩) (Kd.R_far (p := ⟨gb429, 1, none⟩) (Kd.R_far (p := ⟨gb429, 0, none⟩) (Kd.R_types HO_3.out BK429.out (by decide)) (fun _ hk => hk.2) (.int .i64 1440)) (fun _ hk => hk.2) (.int .i64 1440)) (fun _ hk => hk.2) (.int .i64 1)) (fun _ hk => hk.2) (.int .i64 1440)) (fun _ h_ => h_.1))) hb); have n1_ := Aside0.mk (Kd.R_below (by (with_reducible repeat (first | apply Kd.R_alloc | apply Kd.R_drewN | apply Kd.R_drew)); exact (Kd.R_mono (Kd.R_far (p := ⟨gb429, 3, none⟩) (Kd.R_far (p := ⟨gb429, 2, none⟩) (Kd.R_far (p := ⟨gb429, 1, none⟩) (Kd.R_far (p := ⟨gb429, 0, none⟩) (Kd.R_types HO_6.out BK429.out (by decide)) (fun _ hk => hk.2) (.int .i64 1440)) (fun _ hk => hk.2) (.int .i64 1440)) (fun _ hk => hk.2) (.int .i64 1)) (fun _ hk => hk.2) (.int .i64 1440)) (fun _ h_ => h_.1))) hb); have n2_ := Aside0.mk (blk_below (g := gb421) (o := .cells #[.int .i64 t417, .int .i64 t418, .int .i64 t419, .int .i64 t420] 25 (0, 0)) (by (with_reducible repeat (first | refine blk_drewN ?_ _ | refine blk_drew ?_ | refine blk_alloc ?_ _)); refine blk_far ?_ NB421_429.out _; (with_reducible repeat (first | refine blk_drewN ?_ _ | refine blk_drew ?_ | refine blk_alloc ?_ _)); refine blk_far ?_ NB421_429.out _; (with_reducible repeat (first | refine blk_drewN ?_ _ | refine blk_drew ?_ | refine blk_alloc ?_ _)); refine blk_far ?_ NB421_429.out _; (with_reducible repeat (first | refine blk_drewN ?_ _ | refine blk_drew ?_ | refine blk_alloc ?_ _)); refine blk_far ?_ NB421_429.out _; (with_reducible repeat (first | refine blk_drewN ?_ _ | refine blk_drew ?_ | refine blk_alloc ?_ _)); exact BK421.out) hb); have n3_ := Aside0.mk (blk_below (g := gb429) (o := .cells #[.int .i64 1440, .int .i64 1440, .int .i64 1, .int .i64 1440] 25 (0, 0)) (by (with_reducible repeat (first | refine blk_drewN ?_ _ | refine blk_drew ?_ | refine blk_alloc ?_ _)); refine blk_put (cs := #[.int .i64 1440, .int .i64 1440, .int .i64 1, .int .i64 0]) ?_ 3 _ rfl; (with_reducible repeat (first | refine blk_drewN ?_ _ | refine blk_drew ?_ | refine blk_alloc ?_ _)); refine blk_put (cs := #[.int .i64 1440, .int .i64 1440, .int .i64 0, .int .i64 0]) ?_ 2 _ rfl; (with_reducible repeat (first | refine blk_drewN ?_ _ | refine blk_drew ?_ | refine blk_alloc ?_ _)); refine blk_put (cs := #[.int .i64 1440, .int .i64 0, .int .i64 0, .int .i64 0]) ?_ 1 _ rfl; (with_reducible repeat (first | refine blk_drewN ?_ _ | refine blk_drew ?_ | refine blk_alloc ?_ _)); refine blk_put (cs := #[.int .i64 0, .int .i64 0, .int .i64 0, .int .i64 0]) ?_ 0 _ rfl; (with_reducible repeat (first | refine blk_drewN ?_ _ | refine blk_drew ?_ | refine blk_alloc ?_ _)); exact BK429.out) hb); have n4_ := Aside0.mk (below_step (nH2 HB.out GE421.out GE429.out) hb); clear HO_3; clear HO_6; clear BK421; clear BK429; clear HB; have HO_3 := n0_; have HO_6 := n1_; have BK421 := n2_; have BK429 := n3_; have HB := n4_; clear n0_ n1_ n2_ n3_ n4_; (try clear hb); (try clear hb2); (try clear hk); (try clear hi)))
         (try simp only [Act.put, List.setIfInBounds_toArray, List.set_cons_zero, List.set_cons_succ])
         go_cut [79] (fun v79 wc => ∃ (kq : Nat) (x79_33 : Bool), v79 = .bool x79_33 ∧ Aside0 (laws_FnDuty.j2 kq l0 t411 x6_4 t425 t430 x79_33 t417 t418 t419 t420 = some r) ∧ Aside0 (kq ≤ kj15) ∧ Aside0 (Kd.R k52 52 wc w.heap.size (fun _ => True) (.slice Ao17 t411.length co17) t411) ∧ Aside0 (Kd.R (Kd.int .i64) 3 wc w.heap.size (fun _ => True) (.slice Ao18 x6_4.length co18) x6_4) ∧ Aside0 (wc.heap[gb421]? = some (.cells #[.int .i64 t417, .int .i64 t418, .int .i64 t419, .int .i64 t420] 25 (0, 0))) ∧ Aside0 (wc.heap[gb429]? = some (.cells #[.int .i64 1440, .int .i64 1440, .int .i64 1, .int .i64 1440] 25 (0, 0))) ∧ Aside0 (Below w.heap.size w wc))
         case first =>
          have H := HC34.out; clear HC34
          replace H := Option.bind_eq_some_iff.mp H
          obtain ⟨t431, A400, H⟩ := H
          replace H : (if t430 = t431 then ((impl_DutyCode.f kj15 t411 x6_4 1440 1440 1 1440).bind fun t432 => (laws_FnDuty.j2 kj15 l0 t411 x6_4 t425 t430 (t432 != 0) t417 t418 t419 t420)) else (laws_FnDuty.j2 kj15 l0 t411 x6_4 t425 t430 true t417 t418 t419 t420)) = some r := H
          have A40 := Aside0.mk A400
          clear A400
          by_cases c41 : t430 = t431
          · rw [if_pos c41] at H
            have c41b0 : (t430 == t431) = true := beq_iff_eq.mpr c41
            have c41b1 : (t430 != t431) = false := bne_eq_false_iff_eq.mpr c41
            clear c41
            (first | rw [c41b0] | (simp only [i64_w, i32_w]; rw [c41b0]) | skip)
            replace H := Option.bind_eq_some_iff.mp H
            obtain ⟨t432, A420, H⟩ := H
            replace H : (laws_FnDuty.j2 kj15 l0 t411 x6_4 t425 t430 (t432 != 0) t417 t418 t419 t420) = some r := H
            have A42 := Aside0.mk A420
            clear A420
            have H' := Aside0.mk H
            clear H; have hnb43 := NB421_429.out; have hnc43 := NB429_421.out
            have hcz44_0 : w39.cell? ⟨gb421, 0, none⟩ = some (.int .i64 t417) := (blk_cell BK421.out 0).trans rfl
            have hcz44_1 : w39.cell? ⟨gb421, 1, none⟩ = some (.int .i64 t418) := (blk_cell BK421.out 1).trans rfl
            have hcz44_2 : w39.cell? ⟨gb421, 2, none⟩ = some (.int .i64 t419) := (blk_cell BK421.out 2).trans rfl
            have hcz44_3 : w39.cell? ⟨gb421, 3, none⟩ = some (.int .i64 t420) := (blk_cell BK421.out 3).trans rfl
            have hfz44_0 := blk_frozen BK421.out 0
            have hfz44_1 := blk_frozen BK421.out 1
            have hfz44_2 := blk_frozen BK421.out 2
            have hfz44_3 := blk_frozen BK421.out 3
            go_wp2_with (first | ((with_reducible refine gate_callee (f := 22) rfl ?_); refine goesL_ (some 71) rfl rfl Try.func22 (by kernel_rfl) rfl #[.slice Ao17 t411.length co17, .slice Ao18 x6_4.length co18, .agg #[.int .i64 t417, .int .i64 t418, .int .i64 t419, .int .i64 t420]] rfl (by (try simp only [List.map_toArray, List.map_cons, List.map_nil]); first | done | rfl | (simp only [List.length_drop, List.length_take]; rfl)) ?_; (with_reducible refine (spec_DutyCode.calls kj15 _ _ t411 _ _ x6_4 t417 t418 t419 t420 t431 _ ?side1 ?side2 ?side3 ?side4 A40.out).mono ?_); (case side1 => repeat (first | exact (Kd.R_reads' HO_3.out).2.2 | (with_reducible refine Kd.C_alloc ?_ _) | (with_reducible refine Kd.C_drewN ?_ _) | (with_reducible refine Kd.C_drew ?_))); (case side2 => exact (Kd.R_reads' HO_3.out).2.1); (case side3 => repeat (first | exact (Kd.R_reads' HO_6.out).2.2 | (with_reducible refine Kd.C_alloc ?_ _) | (with_reducible refine Kd.C_drewN ?_ _) | (with_reducible refine Kd.C_drew ?_))); (case side4 => exact (Kd.R_reads' HO_6.out).2.1); rintro e w45 ⟨rfl, hb⟩; refine ⟨_, rfl, ?_⟩; have n0_ := Aside0.mk (Kd.R_below (nR HO_3.out) hb); have n1_ := Aside0.mk (Kd.R_below (nR HO_6.out) hb); have n2_ := Aside0.mk (blk_below (g := gb421) (o := .cells #[.int .i64 t417, .int .i64 t418, .int .i64 t419, .int .i64 t420] 25 (0, 0)) (nB BK421.out) hb); have n3_ := Aside0.mk (blk_below (g := gb429) (o := .cells #[.int .i64 1440, .int .i64 1440, .int .i64 1, .int .i64 1440] 25 (0, 0)) (nB BK429.out) hb); have n4_ := Aside0.mk (below_step (nH2 HB.out GE421.out GE429.out) hb); clear HO_3; clear HO_6; clear BK421; clear BK429; clear HB; have HO_3 := n0_; have HO_6 := n1_; have BK421 := n2_; have BK429 := n3_; have HB := n4_; clear n0_ n1_ n2_ n3_ n4_; (try clear hb); (try clear hb2); (try clear hk); (try clear hi); have hcz46_0 : w45.cell? ⟨gb429, 0, none⟩ = some (.int .i64 1440) := (blk_cell BK429.out 0).trans rfl; have hcz46_1 : w45.cell? ⟨gb429, 1, none⟩ = some (.int .i64 1440) := (blk_cell BK429.out 1).trans rfl; have hcz46_2 : w45.cell? ⟨gb429, 2, none⟩ = some (.int .i64 1) := (blk_cell BK429.out 2).trans rfl; have hcz46_3 : w45.cell? ⟨gb429, 3, none⟩ = some (.int .i64 1440) := (blk_cell BK429.out 3).trans rfl; have hfz46_0 := blk_frozen BK429.out 0; have hfz46_1 := blk_frozen BK429.out 1; have hfz46_2 := blk_frozen BK429.out 2; have hfz46_3 := blk_frozen BK429.out 3) | (go_at_call 23; (with_reducible refine (impl_DutyCode.calls kj15 _ _ t411 _ _ x6_4 1440 1440 1 1440 t432 _ ?side1 ?side2 ?side3 ?side4 A42.out).mono ?_); (case side1 => repeat (first | exact (Kd.R_reads' HO_3.out).2.2 | (with_reducible refine Kd.C_alloc ?_ _) | (with_reducible refine Kd.C_drewN ?_ _) | (with_reducible refine Kd.C_drew ?_))); (case side2 => exact (Kd.R_reads' HO_3.out).2.1); (case side3 => repeat (first | exact (Kd.R_reads' HO_6.out).2.2 | (with_reducible refine Kd.C_alloc ?_ _) | (with_reducible refine Kd.C_drewN ?_ _) | (with_reducible refine Kd.C_drew ?_))); (case side4 => exact (Kd.R_reads' HO_6.out).2.1); rintro e w47 ⟨rfl, hb⟩; have n0_ := Aside0.mk (Kd.R_below (nR HO_3.out) hb); have n1_ := Aside0.mk (Kd.R_below (nR HO_6.out) hb); have n2_ := Aside0.mk (blk_below (g := gb421) (o := .cells #[.int .i64 t417, .int .i64 t418, .int .i64 t419, .int .i64 t420] 25 (0, 0)) (nB BK421.out) hb); have n3_ := Aside0.mk (blk_below (g := gb429) (o := .cells #[.int .i64 1440, .int .i64 1440, .int .i64 1, .int .i64 1440] 25 (0, 0)) (nB BK429.out) hb); have n4_ := Aside0.mk (below_step (nH2 HB.out GE421.out GE429.out) hb); clear HO_3; clear HO_6; clear BK421; clear BK429; clear HB; have HO_3 := n0_; have HO_6 := n1_; have BK421 := n2_; have BK429 := n3_; have HB := n4_; clear n0_ n1_ n2_ n3_ n4_; (try clear hb); (try clear hb2); (try clear hk); (try clear hi)))
            go_meet
            case rel => exact ⟨_, ((t432 != 0)), nS, H', ⟨by have := HJ4.out; have := HJ15.out; first | omega | exact Nat.le_refl _⟩, ⟨by (with_reducible repeat (first | apply Kd.R_alloc | apply Kd.R_drewN | apply Kd.R_drew)); exact HO_3.out⟩, ⟨by (with_reducible repeat (first | apply Kd.R_alloc | apply Kd.R_drewN | apply Kd.R_drew)); exact HO_6.out⟩, ⟨by (with_reducible repeat (first | refine blk_drewN ?_ _ | refine blk_drew ?_ | refine blk_alloc ?_ _)); exact BK421.out⟩, ⟨by (with_reducible repeat (first | refine blk_drewN ?_ _ | refine blk_drew ?_ | refine blk_alloc ?_ _)); exact BK429.out⟩, ⟨nH2 HB.out GE421.out GE429.out⟩⟩
          · rw [if_neg c41] at H
            have c41b0 : (t430 == t431) = false := beq_eq_false_iff_ne.mpr c41
            have c41b1 : (t430 != t431) = true := bne_iff_ne.mpr c41
            (first | rw [c41b0] | (simp only [i64_w, i32_w]; rw [c41b0]) | skip)
            have H' := Aside0.mk H
            clear H; have hnb48 := NB421_429.out; have hnc48 := NB429_421.out
            have hcz49_0 : w39.cell? ⟨gb421, 0, none⟩ = some (.int .i64 t417) := (blk_cell BK421.out 0).trans rfl
            have hcz49_1 : w39.cell? ⟨gb421, 1, none⟩ = some (.int .i64 t418) := (blk_cell BK421.out 1).trans rfl
            have hcz49_2 : w39.cell? ⟨gb421, 2, none⟩ = some (.int .i64 t419) := (blk_cell BK421.out 2).trans rfl
            have hcz49_3 : w39.cell? ⟨gb421, 3, none⟩ = some (.int .i64 t420) := (blk_cell BK421.out 3).trans rfl
            have hfz49_0 := blk_frozen BK421.out 0
            have hfz49_1 := blk_frozen BK421.out 1
            have hfz49_2 := blk_frozen BK421.out 2
            have hfz49_3 := blk_frozen BK421.out 3
            go_wp2_with (first | ((with_reducible refine gate_callee (f := 22) rfl ?_); refine goesL_ (some 71) rfl rfl Try.func22 (by kernel_rfl) rfl #[.slice Ao17 t411.length co17, .slice Ao18 x6_4.length co18, .agg #[.int .i64 t417, .int .i64 t418, .int .i64 t419, .int .i64 t420]] rfl (by (try simp only [List.map_toArray, List.map_cons, List.map_nil]); first | done | rfl | (simp only [List.length_drop, List.length_take]; rfl)) ?_; (with_reducible refine (spec_DutyCode.calls kj15 _ _ t411 _ _ x6_4 t417 t418 t419 t420 t431 _ ?side1 ?side2 ?side3 ?side4 A40.out).mono ?_); (case side1 => repeat (first | exact (Kd.R_reads' HO_3.out).2.2 | (with_reducible refine Kd.C_alloc ?_ _) | (with_reducible refine Kd.C_drewN ?_ _) | (with_reducible refine Kd.C_drew ?_))); (case side2 => exact (Kd.R_reads' HO_3.out).2.1); (case side3 => repeat (first | exact (Kd.R_reads' HO_6.out).2.2 | (with_reducible refine Kd.C_alloc ?_ _) | (with_reducible refine Kd.C_drewN ?_ _) | (with_reducible refine Kd.C_drew ?_))); (case side4 => exact (Kd.R_reads' HO_6.out).2.1); rintro e w50 ⟨rfl, hb⟩; refine ⟨_, rfl, ?_⟩; have n0_ := Aside0.mk (Kd.R_below (nR HO_3.out) hb); have n1_ := Aside0.mk (Kd.R_below (nR HO_6.out) hb); have n2_ := Aside0.mk (blk_below (g := gb421) (o := .cells #[.int .i64 t417, .int .i64 t418, .int .i64 t419, .int .i64 t420] 25 (0, 0)) (nB BK421.out) hb); have n3_ := Aside0.mk (blk_below (g := gb429) (o := .cells #[.int .i64 1440, .int .i64 1440, .int .i64 1, .int .i64 1440] 25 (0, 0)) (nB BK429.out) hb); have n4_ := Aside0.mk (below_step (nH2 HB.out GE421.out GE429.out) hb); clear HO_3; clear HO_6; clear BK421; clear BK429; clear HB; have HO_3 := n0_; have HO_6 := n1_; have BK421 := n2_; have BK429 := n3_; have HB := n4_; clear n0_ n1_ n2_ n3_ n4_; (try clear hb); (try clear hb2); (try clear hk); (try clear hi)))
            go_meet
            case rel => exact ⟨_, (true), nS, H', ⟨by have := HJ4.out; have := HJ15.out; first | omega | exact Nat.le_refl _⟩, ⟨by (with_reducible repeat (first | apply Kd.R_alloc | apply Kd.R_drewN | apply Kd.R_drew)); exact HO_3.out⟩, ⟨by (with_reducible repeat (first | apply Kd.R_alloc | apply Kd.R_drewN | apply Kd.R_drew)); exact HO_6.out⟩, ⟨by (with_reducible repeat (first | refine blk_drewN ?_ _ | refine blk_drew ?_ | refine blk_alloc ?_ _)); exact BK421.out⟩, ⟨by (with_reducible repeat (first | refine blk_drewN ?_ _ | refine blk_drew ?_ | refine blk_alloc ?_ _)); exact BK429.out⟩, ⟨nH2 HB.out GE421.out GE429.out⟩⟩
         case rest =>
          clear HC34; try clear c1; try clear q1; try clear c2; try clear p2; try clear c3; try clear c4; try clear p6; try clear c7; try clear c11; try clear c11b0; try clear c11b1; try clear c12; try clear c12b0; try clear c12b1; try clear q13; try clear c17; try clear c21; try clear c22; try clear c22b0; try clear c23; try clear c23b0; try clear c24; try clear c24b0; try clear c25; try clear c26; try clear c26b0; try clear c26b1; try clear c32; try clear c36; try clear c41; try clear c41b0; try clear c41b1; try clear c43; try clear c48; try clear hcz20_0; try clear hcz20_1; try clear hcz20_2
          try clear hcz20_3; try clear hcz29_0; try clear hcz29_1; try clear hcz29_2; try clear hcz29_3; try clear hcz37_0; try clear hcz37_1; try clear hcz37_2; try clear hcz37_3; try clear hcz38_0; try clear hcz38_1; try clear hcz38_2; try clear hcz38_3; try clear hcz44_0; try clear hcz44_1; try clear hcz44_2; try clear hcz44_3; try clear hcz46_0; try clear hcz46_1; try clear hcz46_2; try clear hcz46_3; try clear hcz49_0; try clear hcz49_1; try clear hcz49_2; try clear hcz49_3; try clear hcz8_0; try clear hcz8_1; try clear hcz8_2; try clear hcz8_3; try clear hfz20_0; try clear hfz20_1; try clear hfz20_2
          try clear hfz20_3; try clear hfz29_0; try clear hfz29_1; try clear hfz29_2; try clear hfz29_3; try clear hfz37_0; try clear hfz37_1; try clear hfz37_2; try clear hfz37_3; try clear hfz38_0; try clear hfz38_1; try clear hfz38_2; try clear hfz38_3; try clear hfz44_0; try clear hfz44_1; try clear hfz44_2; try clear hfz44_3; try clear hfz46_0; try clear hfz46_1; try clear hfz46_2; try clear hfz46_3; try clear hfz49_0; try clear hfz49_1; try clear hfz49_2; try clear hfz49_3; try clear hfz8_0; try clear hfz8_1; try clear hfz8_2; try clear hfz8_3; try clear p2; try clear p6; try clear q1; try clear q13
          obtain ⟨kq, x79_33, rfl, HA, HJ33, HO_3, HO_6, BK421, BK429, HB⟩ := hcut
          cases kq with
          | zero => exact absurd HA.out (by simp [laws_FnDuty.j2])
          | succ kj33 =>
           have H := HA.out; clear HA
           simp only [laws_FnDuty.j2] at H
           by_cases c51 : x79_33 = true
           · subst c51
             have H1 : (some false) = some r := by rw [if_pos rfl] at H; exact H
             clear H; have H := H1; clear H1
             exact absurd ((Option.some.inj H).trans ht.out) (by decide)
           · replace c51 := Bool.eq_false_iff.mpr c51
             subst c51
             have H1 : ((laws_at.f l0 3).bind fun t433 => ((impl_Wage.f kj33 t411 x6_4 t417 t418 t419 t420 t433).bind fun t434 => (if t430 = 0 then (if t434 ≥ (wrap64 (t433 * t425)) then ((impl_Wage.f kj33 t411 x6_4 t417 t418 t419 t420 (wrap64 (t433 + 1))).bind fun t435 => (if (wrap64 (t435 - t434)) ≥ t425 then ((impl_Wage.f kj33 t411 x6_4 t417 t418 t419 t420 0).bind fun t436 => (some (t436 == 0))) else (some false))) else (some false)) else (some (t434 == (-1)))))) = some r := by rw [if_neg (show ¬ (false = true) by decide)] at H; exact H
             clear H; have H := H1; clear H1
             replace H := Option.bind_eq_some_iff.mp H
             obtain ⟨t433, A520, H⟩ := H
             replace H : ((impl_Wage.f kj33 t411 x6_4 t417 t418 t419 t420 t433).bind fun t434 => (if t430 = 0 then (if t434 ≥ (wrap64 (t433 * t425)) then ((impl_Wage.f kj33 t411 x6_4 t417 t418 t419 t420 (wrap64 (t433 + 1))).bind fun t435 => (if (wrap64 (t435 - t434)) ≥ t425 then ((impl_Wage.f kj33 t411 x6_4 t417 t418 t419 t420 0).bind fun t436 => (some (t436 == 0))) else (some false))) else (some false)) else (some (t434 == (-1))))) = some r := H
             have A52 := Aside0.mk A520
             clear A520
             replace H := Option.bind_eq_some_iff.mp H
             obtain ⟨t434, A530, H⟩ := H
             replace H : (if t430 = 0 then (if t434 ≥ (wrap64 (t433 * t425)) then ((impl_Wage.f kj33 t411 x6_4 t417 t418 t419 t420 (wrap64 (t433 + 1))).bind fun t435 => (if (wrap64 (t435 - t434)) ≥ t425 then ((impl_Wage.f kj33 t411 x6_4 t417 t418 t419 t420 0).bind fun t436 => (some (t436 == 0))) else (some false))) else (some false)) else (some (t434 == (-1)))) = some r := H
             have A53 := Aside0.mk A530
             clear A530
             by_cases c54 : t430 = 0
             · rw [if_pos c54] at H
               have c54b0 : (t430 == 0) = true := beq_iff_eq.mpr c54
               have c54b1 : (t430 != 0) = false := bne_eq_false_iff_eq.mpr c54
               clear c54
               by_cases c55 : t434 ≥ (wrap64 (t433 * t425))
               · rw [if_pos c55] at H
                 have c55b0 : decide ((wrap64 (t433 * t425)) ≤ t434) = true := decide_eq_true c55
                 clear c55
                 replace H := Option.bind_eq_some_iff.mp H
                 obtain ⟨t435, A560, H⟩ := H
                 replace H : (if (wrap64 (t435 - t434)) ≥ t425 then ((impl_Wage.f kj33 t411 x6_4 t417 t418 t419 t420 0).bind fun t436 => (some (t436 == 0))) else (some false)) = some r := H
                 have A56 := Aside0.mk A560
                 clear A560
                 by_cases c57 : (wrap64 (t435 - t434)) ≥ t425
                 · rw [if_pos c57] at H
                   have c57b0 : decide (t425 ≤ (wrap64 (t435 - t434))) = true := decide_eq_true c57
                   clear c57
                   replace H := Option.bind_eq_some_iff.mp H
                   obtain ⟨t436, A580, H⟩ := H
                   replace H : (some (t436 == 0)) = some r := H
                   have A58 := Aside0.mk A580
                   clear A580; obtain rfl := Option.some.inj H
                   go_wp2_with (first | ((with_reducible refine gate_callee (f := 26) rfl ?_); refine goesL_ (some 81) rfl rfl Try.func26 (by kernel_rfl) rfl #[.slice A0 l0.length c0, .int .i64 3] rfl (by (try simp only [List.map_toArray, List.map_cons, List.map_nil]); first | done | rfl | (simp only [List.length_drop, List.length_take]; rfl)) ?_; (with_reducible refine (laws_at.calls _ _ l0 3 t433 _ ?side1 ?side2 A52.out).mono ?_); (case side1 => repeat (first | exact (Kd.C_below HR0.out HB.out) | (with_reducible refine Kd.C_alloc ?_ _) | (with_reducible refine Kd.C_drewN ?_ _) | (with_reducible refine Kd.C_drew ?_))); (case side2 => exact HC0.out); rintro e w' ⟨rfl, ⟨nd, rfl⟩⟩; refine ⟨_, rfl, ?_⟩; have hnb59 := NB421_429.out; have hnc59 := NB429_421.out; have hcz60_0 : wc.cell? ⟨gb421, 0, none⟩ = some (.int .i64 t417) := (blk_cell BK421.out 0).trans rfl; have hcz60_1 : wc.cell? ⟨gb421, 1, none⟩ = some (.int .i64 t418) := (blk_cell BK421.out 1).trans rfl; have hcz60_2 : wc.cell? ⟨gb421, 2, none⟩ = some (.int .i64 t419) := (blk_cell BK421.out 2).trans rfl; have hcz60_3 : wc.cell? ⟨gb421, 3, none⟩ = some (.int .i64 t420) := (blk_cell BK421.out 3).trans rfl; have hfz60_0 := blk_frozen BK421.out 0; have hfz60_1 := blk_frozen BK421.out 1; have hfz60_2 := blk_frozen BK421.out 2; have hfz60_3 := blk_frozen BK421.out 3) | ((with_reducible refine gate_callee (f := 27) rfl ?_); refine goesL_ (some 86) rfl rfl Try.func27 (by kernel_rfl) rfl #[.slice Ao17 t411.length co17, .slice Ao18 x6_4.length co18, .agg #[.int .i64 t417, .int .i64 t418, .int .i64 t419, .int .i64 t420], .int .i64 t433] rfl (by (try simp only [List.map_toArray, List.map_cons, List.map_nil]); first | done | rfl | (simp only [List.length_drop, List.length_take]; rfl)) ?_; (with_reducible refine (impl_Wage.calls kj33 _ _ t411 _ _ x6_4 t417 t418 t419 t420 t433 t434 _ ?side1 ?side2 ?side3 ?side4 A53.out).mono ?_); (case side1 => repeat (first | exact (Kd.R_reads' HO_3.out).2.2 | (with_reducible refine Kd.C_alloc ?_ _) | (with_reducible refine Kd.C_drewN ?_ _) | (with_reducible refine Kd.C_drew ?_))); (case side2 => exact (Kd.R_reads' HO_3.out).2.1); (case side3 => repeat (first | exact (Kd.R_reads' HO_6.out).2.2 | (with_reducible refine Kd.C_alloc ?_ _) | (with_reducible refine Kd.C_drewN ?_ _) | (with_reducible refine Kd.C_drew ?_))); (case side4 => exact (Kd.R_reads' HO_6.out).2.1); rintro e w61 ⟨rfl, hb⟩; refine ⟨_, rfl, ?_⟩; have n0_ := Aside0.mk (Kd.R_below (nR HO_3.out) hb); have n1_ := Aside0.mk (Kd.R_below (nR HO_6.out) hb); have n2_ := Aside0.mk (blk_below (g := gb421) (o := .cells #[.int .i64 t417, .int .i64 t418, .int .i64 t419, .int .i64 t420] 25 (0, 0)) (nB BK421.out) hb); have n3_ := Aside0.mk (blk_below (g := gb429) (o := .cells #[.int .i64 1440, .int .i64 1440, .int .i64 1, .int .i64 1440] 25 (0, 0)) (nB BK429.out) hb); have n4_ := Aside0.mk (below_step (nH2 HB.out GE421.out GE429.out) hb); clear HO_3; clear HO_6; clear BK421; clear BK429; clear HB; have HO_3 := n0_; have HO_6 := n1_; have BK421 := n2_; have BK429 := n3_; have HB := n4_; clear n0_ n1_ n2_ n3_ n4_; (try clear hb); (try clear hb2); (try clear hk); (try clear hi); have hcz62_0 : w61.cell? ⟨gb421, 0, none⟩ = some (.int .i64 t417) := (blk_cell BK421.out 0).trans rfl; have hcz62_1 : w61.cell? ⟨gb421, 1, none⟩ = some (.int .i64 t418) := (blk_cell BK421.out 1).trans rfl; have hcz62_2 : w61.cell? ⟨gb421, 2, none⟩ = some (.int .i64 t419) := (blk_cell BK421.out 2).trans rfl; have hcz62_3 : w61.cell? ⟨gb421, 3, none⟩ = some (.int .i64 t420) := (blk_cell BK421.out 3).trans rfl; have hfz62_0 := blk_frozen BK421.out 0; have hfz62_1 := blk_frozen BK421.out 1; have hfz62_2 := blk_frozen BK421.out 2; have hfz62_3 := blk_frozen BK421.out 3) | (go_at_call 27; (with_reducible refine (impl_Wage.calls kj33 _ _ t411 _ _ x6_4 t417 t418 t419 t420 (wrap64 (t433 + 1)) t435 _ ?side1 ?side2 ?side3 ?side4 A56.out).mono ?_); (case side1 => repeat (first | exact (Kd.R_reads' HO_3.out).2.2 | (with_reducible refine Kd.C_alloc ?_ _) | (with_reducible refine Kd.C_drewN ?_ _) | (with_reducible refine Kd.C_drew ?_))); (case side2 => exact (Kd.R_reads' HO_3.out).2.1); (case side3 => repeat (first | exact (Kd.R_reads' HO_6.out).2.2 | (with_reducible refine Kd.C_alloc ?_ _) | (with_reducible refine Kd.C_drewN ?_ _) | (with_reducible refine Kd.C_drew ?_))); (case side4 => exact (Kd.R_reads' HO_6.out).2.1); rintro e w63 ⟨rfl, hb⟩; have n0_ := Aside0.mk (Kd.R_below (nR HO_3.out) hb); have n1_ := Aside0.mk (Kd.R_below (nR HO_6.out) hb); have n2_ := Aside0.mk (blk_below (g := gb421) (o := .cells #[.int .i64 t417, .int .i64 t418, .int .i64 t419, .int .i64 t420] 25 (0, 0)) (nB BK421.out) hb); have n3_ := Aside0.mk (blk_below (g := gb429) (o := .cells #[.int .i64 1440, .int .i64 1440, .int .i64 1, .int .i64 1440] 25 (0, 0)) (nB BK429.out) hb); have n4_ := Aside0.mk (below_step (nH2 HB.out GE421.out GE429.out) hb); clear HO_3; clear HO_6; clear BK421; clear BK429; clear HB; have HO_3 := n0_; have HO_6 := n1_; have BK421 := n2_; have BK429 := n3_; have HB := n4_; clear n0_ n1_ n2_ n3_ n4_; (try clear hb); (try clear hb2); (try clear hk); (try clear hi); have hcz64_0 : w63.cell? ⟨gb421, 0, none⟩ = some (.int .i64 t417) := (blk_cell BK421.out 0).trans rfl; have hcz64_1 : w63.cell? ⟨gb421, 1, none⟩ = some (.int .i64 t418) := (blk_cell BK421.out 1).trans rfl; have hcz64_2 : w63.cell? ⟨gb421, 2, none⟩ = some (.int .i64 t419) := (blk_cell BK421.out 2).trans rfl; have hcz64_3 : w63.cell? ⟨gb421, 3, none⟩ = some (.int .i64 t420) := (blk_cell BK421.out 3).trans rfl; have hfz64_0 := blk_frozen BK421.out 0; have hfz64_1 := blk_frozen BK421.out 1; have hfz64_2 := blk_frozen BK421.out 2; have hfz64_3 := blk_frozen BK421.out 3) | (go_at_call 27; (with_reducible refine (impl_Wage.calls kj33 _ _ t411 _ _ x6_4 t417 t418 t419 t420 0 t436 _ ?side1 ?side2 ?side3 ?side4 A58.out).mono ?_); (case side1 => repeat (first | exact (Kd.R_reads' HO_3.out).2.2 | (with_reducible refine Kd.C_alloc ?_ _) | (with_reducible refine Kd.C_drewN ?_ _) | (with_reducible refine Kd.C_drew ?_))); (case side2 => exact (Kd.R_reads' HO_3.out).2.1); (case side3 => repeat (first | exact (Kd.R_reads' HO_6.out).2.2 | (with_reducible refine Kd.C_alloc ?_ _) | (with_reducible refine Kd.C_drewN ?_ _) | (with_reducible refine Kd.C_drew ?_))); (case side4 => exact (Kd.R_reads' HO_6.out).2.1); rintro e w65 ⟨rfl, hb⟩; have n0_ := Aside0.mk (Kd.R_below (nR HO_3.out) hb); have n1_ := Aside0.mk (Kd.R_below (nR HO_6.out) hb); have n2_ := Aside0.mk (blk_below (g := gb421) (o := .cells #[.int .i64 t417, .int .i64 t418, .int .i64 t419, .int .i64 t420] 25 (0, 0)) (nB BK421.out) hb); have n3_ := Aside0.mk (blk_below (g := gb429) (o := .cells #[.int .i64 1440, .int .i64 1440, .int .i64 1, .int .i64 1440] 25 (0, 0)) (nB BK429.out) hb); have n4_ := Aside0.mk (below_step (nH2 HB.out GE421.out GE429.out) hb); clear HO_3; clear HO_6; clear BK421; clear BK429; clear HB; have HO_3 := n0_; have HO_6 := n1_; have BK421 := n2_; have BK429 := n3_; have HB := n4_; clear n0_ n1_ n2_ n3_ n4_; (try clear hb); (try clear hb2); (try clear hk); (try clear hi)))
                   go_ret
                   exact ⟨by first | rfl | (simp [errW_none, errW_some] <;> rfl) | (simp [*, errW_none, errW_some] <;> first | rfl | (simp [wrap64]; done)), nH2 HB.out GE421.out GE429.out⟩
                 · rw [if_neg c57] at H
                   have c57b0 : decide (t425 ≤ (wrap64 (t435 - t434))) = false := decide_eq_false c57
                   clear c57
                   exact absurd ((Option.some.inj H).trans ht.out) (by decide)
               · rw [if_neg c55] at H
                 have c55b0 : decide ((wrap64 (t433 * t425)) ≤ t434) = false := decide_eq_false c55
                 clear c55
                 exact absurd ((Option.some.inj H).trans ht.out) (by decide)
             · rw [if_neg c54] at H
               have c54b0 : (t430 == 0) = false := beq_eq_false_iff_ne.mpr c54
               have c54b1 : (t430 != 0) = true := bne_iff_ne.mpr c54
               obtain rfl := Option.some.inj H
               go_wp2_with (first | ((with_reducible refine gate_callee (f := 26) rfl ?_); refine goesL_ (some 81) rfl rfl Try.func26 (by kernel_rfl) rfl #[.slice A0 l0.length c0, .int .i64 3] rfl (by (try simp only [List.map_toArray, List.map_cons, List.map_nil]); first | done | rfl | (simp only [List.length_drop, List.length_take]; rfl)) ?_; (with_reducible refine (laws_at.calls _ _ l0 3 t433 _ ?side1 ?side2 A52.out).mono ?_); (case side1 => repeat (first | exact (Kd.C_below HR0.out HB.out) | (with_reducible refine Kd.C_alloc ?_ _) | (with_reducible refine Kd.C_drewN ?_ _) | (with_reducible refine Kd.C_drew ?_))); (case side2 => exact HC0.out); rintro e w' ⟨rfl, ⟨nd, rfl⟩⟩; refine ⟨_, rfl, ?_⟩; have hnb66 := NB421_429.out; have hnc66 := NB429_421.out; have hcz67_0 : wc.cell? ⟨gb421, 0, none⟩ = some (.int .i64 t417) := (blk_cell BK421.out 0).trans rfl; have hcz67_1 : wc.cell? ⟨gb421, 1, none⟩ = some (.int .i64 t418) := (blk_cell BK421.out 1).trans rfl; have hcz67_2 : wc.cell? ⟨gb421, 2, none⟩ = some (.int .i64 t419) := (blk_cell BK421.out 2).trans rfl; have hcz67_3 : wc.cell? ⟨gb421, 3, none⟩ = some (.int .i64 t420) := (blk_cell BK421.out 3).trans rfl; have hfz67_0 := blk_frozen BK421.out 0; have hfz67_1 := blk_frozen BK421.out 1; have hfz67_2 := blk_frozen BK421.out 2; have hfz67_3 := blk_frozen BK421.out 3) | ((with_reducible refine gate_callee (f := 27) rfl ?_); refine goesL_ (some 86) rfl rfl Try.func27 (by kernel_rfl) rfl #[.slice Ao17 t411.length co17, .slice Ao18 x6_4.length co18, .agg #[.int .i64 t417, .int .i64 t418, .int .i64 t419, .int .i64 t420], .int .i64 t433] rfl (by (try simp only [List.map_toArray, List.map_cons, List.map_nil]); first | done | rfl | (simp only [List.length_drop, List.length_take]; rfl)) ?_; (with_reducible refine (impl_Wage.calls kj33 _ _ t411 _ _ x6_4 t417 t418 t419 t420 t433 t434 _ ?side1 ?side2 ?side3 ?side4 A53.out).mono ?_); (case side1 => repeat (first | exact (Kd.R_reads' HO_3.out).2.2 | (with_reducible refine Kd.C_alloc ?_ _) | (with_reducible refine Kd.C_drewN ?_ _) | (with_reducible refine Kd.C_drew ?_))); (case side2 => exact (Kd.R_reads' HO_3.out).2.1); (case side3 => repeat (first | exact (Kd.R_reads' HO_6.out).2.2 | (with_reducible refine Kd.C_alloc ?_ _) | (with_reducible refine Kd.C_drewN ?_ _) | (with_reducible refine Kd.C_drew ?_))); (case side4 => exact (Kd.R_reads' HO_6.out).2.1); rintro e w68 ⟨rfl, hb⟩; refine ⟨_, rfl, ?_⟩; have n0_ := Aside0.mk (Kd.R_below (nR HO_3.out) hb); have n1_ := Aside0.mk (Kd.R_below (nR HO_6.out) hb); have n2_ := Aside0.mk (blk_below (g := gb421) (o := .cells #[.int .i64 t417, .int .i64 t418, .int .i64 t419, .int .i64 t420] 25 (0, 0)) (nB BK421.out) hb); have n3_ := Aside0.mk (blk_below (g := gb429) (o := .cells #[.int .i64 1440, .int .i64 1440, .int .i64 1, .int .i64 1440] 25 (0, 0)) (nB BK429.out) hb); have n4_ := Aside0.mk (below_step (nH2 HB.out GE421.out GE429.out) hb); clear HO_3; clear HO_6; clear BK421; clear BK429; clear HB; have HO_3 := n0_; have HO_6 := n1_; have BK421 := n2_; have BK429 := n3_; have HB := n4_; clear n0_ n1_ n2_ n3_ n4_; (try clear hb); (try clear hb2); (try clear hk); (try clear hi)))
               go_ret
               exact ⟨by first | rfl | (simp [errW_none, errW_some] <;> rfl) | (simp [*, errW_none, errW_some] <;> first | rfl | (simp [wrap64]; done)), nH2 HB.out GE421.out GE429.out⟩
/-- THE ONE PURE STATEMENT of laws_FnDuty: yours. -/
theorem laws_FnDuty.walk (P : laws_FnDuty.Pure) (a0 : Option Addr) (len0 cap0 : Nat) (z0 : List Int) (w : World) (w0 : (a0 = none ∧ len0 = 0 ∧ cap0 = 0 ∧ z0 = []) ∨ ∃ x, a0 = some x ∧ len0 ≤ cap0 ∧ cap0 ≤ maxLen ∧ z0.length = cap0 ∧ (∀ i, i < z0.length → w.cell? (x.add i) = some (.int .u8 (z0.getD i 0))) ∧ ∀ n ∈ z0, (Lit.int .u8 n).wf = true) (y0 : len0 * 1 ≤ 140737488351232) :
 Calls Try.prog 7 #[.slice a0 len0 cap0] w fun e w' => e = .returned (.bool true) ∧ Below w.heap.size w w' := by
 obtain ⟨l0, rfl, hr0, hm0, hw0, hc0⟩ := ReadsInt.ofRowC w0
 obtain ⟨k, h⟩ := P l0 hm0 y0 hw0
 refine (laws_FnDuty.calls k _ _ l0 true w (Kd.C_of_reads (d := (0 : Int)) (h1 := fun _ => rfl) hr0) hc0 ⟨rfl⟩ h).mono ?_
 rintro e w' ⟨rfl, hd⟩
 exact ⟨rfl, hd⟩
end Go.Proofs.Ytnamdbnnijfniaa.P

/- Contracts of the functions of the program, each one with its plain Lean function; written by a program of the session out of the translation. -/
import Derived.Test.YtnamdbnnijfniaaNb
import Derived.Test.YtnamdbnnijfniaaPx0
import Derived.Test.YtnamdbnnijfniaaPx1
import Derived.Test.YtnamdbnnijfniaaPx7
import Derived.Test.YtnamdbnnijfniaaPx8
import Derived.Test.YtnamdbnnijfniaaPx21
namespace Go.Proofs.Ytnamdbnnijfniaa.P
open Go.RowKit Go.Proofs.YtnamdbnnijfniaaW.PrintWords Go.Proofs.YtnamdbnnijfniaaW.PrintLast Go.Proofs.YtnamdbnnijfniaaW.PrintMore
attribute [local go_sem] max2_int min2_int max_two min_two max_three min_three max_four min_four   -- for this text's walks alone
set_option linter.unusedVariables false
set_option linter.unusedSimpArgs false
/-! ### spec_DutyCode: function 22 -/
theorem spec_DutyCode.mono_l : ∀ k, (∀ y0 y1 y2 y3 y4 y5 y6, LeO (spec_DutyCode.j0 k y0 y1 y2 y3 y4 y5 y6) (spec_DutyCode.j0 (k + 1) y0 y1 y2 y3 y4 y5 y6)) ∧ (∀ y0 y1 y2 y3 y4 y5 y6, LeO (spec_DutyCode.l0 k y0 y1 y2 y3 y4 y5 y6) (spec_DutyCode.l0 (k + 1) y0 y1 y2 y3 y4 y5 y6))
 | 0 => ⟨fun _ _ _ _ _ _ _ r h => by simp [spec_DutyCode.j0] at h, fun _ _ _ _ _ _ _ r h => by simp [spec_DutyCode.l0] at h⟩
 | k + 1 => by
  obtain ⟨ih0, ih1⟩ := spec_DutyCode.mono_l k
  refine ⟨?_, ?_⟩
  · intro y0 y1 y2 y3 y4 y5 y6
    unfold spec_DutyCode.j0
    repeat' first
    | (with_reducible exact ih0 _ _ _ _ _ _ _)
    | (with_reducible exact ih1 _ _ _ _ _ _ _)
    | (with_reducible exact spec_Driven.mono _ _ _)
    | (with_reducible exact spec_Stretched.mono _ _ _ _)
    | (with_reducible exact spec_l17Duty.mono _ _ _)
    | (with_reducible exact LeO.refl _)
    | (with_reducible exact LeO.none _)
    | (with_reducible refine LeO.ite ?_ ?_)
    | (with_reducible refine LeO.bind ?_ (fun _ => ?_))
    | exact ih0 _ _ _ _ _ _ _
    | exact ih1 _ _ _ _ _ _ _
    | exact spec_Driven.mono _ _ _
    | exact spec_Stretched.mono _ _ _ _
    | exact spec_l17Duty.mono _ _ _
    | exact LeO.none _
    | refine LeO.ite ?_ ?_
    | refine LeO.bind ?_ (fun _ => ?_)
  · intro y0 y1 y2 y3 y4 y5 y6
    unfold spec_DutyCode.l0
    repeat' first
    | (with_reducible exact ih0 _ _ _ _ _ _ _)
    | (with_reducible exact ih1 _ _ _ _ _ _ _)
    | (with_reducible exact spec_Driven.mono _ _ _)
    | (with_reducible exact spec_Stretched.mono _ _ _ _)
    | (with_reducible exact spec_l17Duty.mono _ _ _)
    | (with_reducible exact LeO.refl _)
    | (with_reducible exact LeO.none _)
    | (with_reducible refine LeO.ite ?_ ?_)
    | (with_reducible refine LeO.bind ?_ (fun _ => ?_))
    | exact ih0 _ _ _ _ _ _ _
    | exact ih1 _ _ _ _ _ _ _
    | exact spec_Driven.mono _ _ _
    | exact spec_Stretched.mono _ _ _ _
    | exact spec_l17Duty.mono _ _ _
    | exact LeO.none _
    | refine LeO.ite ?_ ?_
    | refine LeO.bind ?_ (fun _ => ?_)
theorem spec_DutyCode.mono : ∀ a0 a1 a2 a3 a4 a5 k, LeO (spec_DutyCode.f k a0 a1 a2 a3 a4 a5) (spec_DutyCode.f (k + 1) a0 a1 a2 a3 a4 a5) := by
 intro a0 a1 a2 a3 a4 a5 k
 obtain ⟨ih0, ih1⟩ := spec_DutyCode.mono_l k
 unfold spec_DutyCode.f
 repeat' first
  | (with_reducible exact ih0 _ _ _ _ _ _ _)
  | (with_reducible exact ih1 _ _ _ _ _ _ _)
  | (with_reducible exact spec_Driven.mono _ _ _)
  | (with_reducible exact spec_Stretched.mono _ _ _ _)
  | (with_reducible exact spec_l17Duty.mono _ _ _)
  | (with_reducible exact LeO.refl _)
  | (with_reducible exact LeO.none _)
  | (with_reducible refine LeO.ite ?_ ?_)
  | (with_reducible refine LeO.bind ?_ (fun _ => ?_))
  | exact ih0 _ _ _ _ _ _ _
  | exact ih1 _ _ _ _ _ _ _
  | exact spec_Driven.mono _ _ _
  | exact spec_Stretched.mono _ _ _ _
  | exact spec_l17Duty.mono _ _ _
  | exact LeO.none _
  | refine LeO.ite ?_ ?_
  | refine LeO.bind ?_ (fun _ => ?_)
def spec_DutyCode.T6 : Bool × List (List Nat × List Nat) := (true, [([], []), ([], []), ([], []), ([2], [2]), ([1, 3], [1, 3]), ([4], [4]), ([0, 5], [0, 5]), ([6], [6]), ([], []), ([], []), ([], []), ([9, 10], [9, 10]), ([11], [11]), ([8, 12], [8, 12]), ([13], [13]), ([], []), ([], []), ([15, 7, 0, 1, 2, 3, 4, 5, 6, 7, 15, 16], [7, 15]), ([16, 14, 17, 0, 1, 2, 3, 4, 5, 6, 7, 8, 9, 10, 11, 12, 13, 14, 15, 16, 17], [14, 16])])
def spec_DutyCode.B6 : List Nat := [0, 0, 0, 4, 14, 30, 63, 127, 0, 0, 0, 1536, 3584, 7936, 16128, 0, 0, 98559, 262143]
theorem spec_DutyCode.tab6 : rtab .any (opsOf Try.f22 6) = spec_DutyCode.T6 := by kernel_rfl
theorem spec_DutyCode.bits6 : waitsOk spec_DutyCode.T6.2 spec_DutyCode.B6 = true := by kernel_rfl
def spec_DutyCode.T9 : Bool × List (List Nat × List Nat) := (true, [([], []), ([], []), ([], []), ([2], [2]), ([3], [3]), ([1, 4], [1, 4]), ([5], [5]), ([0, 6], [0, 6]), ([7], [7]), ([8], [8]), ([], []), ([], []), ([11], [11]), ([12], [12]), ([10, 13], [10, 13]), ([14], [14]), ([15], [15]), ([9, 16], [9, 16]), ([], []), ([18], [18]), ([17, 19], [17, 19])])
def spec_DutyCode.B9 : List Nat := [0, 0, 0, 4, 12, 30, 62, 127, 255, 511, 0, 0, 2048, 6144, 15360, 31744, 64512, 131071, 0, 262144, 1048575]
theorem spec_DutyCode.tab9 : rtab .any (opsOf Try.f22 9) = spec_DutyCode.T9 := by kernel_rfl
theorem spec_DutyCode.bits9 : waitsOk spec_DutyCode.T9.2 spec_DutyCode.B9 = true := by kernel_rfl
def spec_DutyCode.T13 : Bool × List (List Nat × List Nat) := (true, [([], []), ([], []), ([], []), ([2], [2]), ([0, 1, 3], [0, 1, 3]), ([], []), ([5], [5]), ([4, 6], [4, 6])])
def spec_DutyCode.B13 : List Nat := [0, 0, 0, 4, 15, 0, 32, 127]
theorem spec_DutyCode.tab13 : rtab .any (opsOf Try.f22 13) = spec_DutyCode.T13 := by kernel_rfl
theorem spec_DutyCode.bits13 : waitsOk spec_DutyCode.T13.2 spec_DutyCode.B13 = true := by kernel_rfl
set_option maxHeartbeats 8000000 in
set_option maxRecDepth 100000 in
theorem spec_DutyCode.calls (k : Nat) (A0 : Option Addr) (c0 : Nat) (l0 : List (S52)) (A1 : Option Addr) (c1 : Nat) (l1 : List Int) (a2_0 : Int) (a2_1 : Int) (a2_2 : Int) (a2_3 : Int) (r : Int) (w : World) (hr0 : Kd.C k52 w A0 l0.length l0) (hc0 : l0.length ≤ c0) (hr1 : Kd.C (Kd.int .i64) w A1 l1.length l1) (hc1 : l1.length ≤ c1) (h : spec_DutyCode.f k l0 l1 a2_0 a2_1 a2_2 a2_3 = some r) :
 Calls Try.prog 22 #[.slice A0 l0.length c0, .slice A1 l1.length c1, .agg #[.int .i64 a2_0, .int .i64 a2_1, .int .i64 a2_2, .int .i64 a2_3]] w fun e w' => e = .returned (.int .i64 r) ∧ Below w.heap.size w w' := by
 have hu25 := Try.underlying25; have hu52 := Try.underlying52
 have HR0 := Aside0.mk hr0
 have HC0 := Aside0.mk hc0
 clear hr0 hc0
 have HR1 := Aside0.mk hr1
 have HC1 := Aside0.mk hc1
 clear hr1 hc1
 have HB := Aside0.mk (Below.refl w.heap.size w)
 have H : ((spec_l17Duty.f k l0 l1).bind fun t265 => (if t265 = true then ((spec_RuleOk.f a2_0 a2_1 a2_2 a2_3).bind fun t266 => (spec_DutyCode.j0 k l0 l1 (!t266) a2_0 a2_1 a2_2 a2_3)) else (spec_DutyCode.j0 k l0 l1 true a2_0 a2_1 a2_2 a2_3))) = some r := h
 clear h
 have HC4 := Aside0.mk H
 clear H
 go_enter Try.func22, Try.ntmps22
 go_upto_region 1 with (first | ((with_reducible refine gate_dst (N := 5) rfl ?_); refine box_event ?hg (N := 5) ?hd (cs := #[.int .i64 a2_0, .int .i64 a2_1, .int .i64 a2_2, .int .i64 a2_3]) (t := 25) ?hr ?_; (case hd => rfl); (case hg => rfl); (case hr => first | (go_simp; done) | (go_simp; rfl)); intro gb264 hg w5 hbox hb; have n0_ := Aside0.mk (below_step (nH HB.out) hb); have n1_ := Aside0.mk (hbox); have n2_ := Aside0.mk ((by rw [hg]; exact (below_size (nH HB.out)) : w.heap.size ≤ gb264)); have n3_ := Aside0.mk ((by rw [hg]; exact (below_size (nH HB.out)) : w.heap.size ≤ gb264)); clear HB; have HB := n0_; have BK264 := n1_; have GW264 := n2_; have GE264 := n3_; clear n0_ n1_ n2_ n3_; clear hb hbox hg))
 (try simp only [Act.put, List.setIfInBounds_toArray, List.set_cons_zero, List.set_cons_succ])
 go_cut [18] (fun v18 wc => ∃ (kq : Nat) (x18_3 : Bool), v18 = .bool x18_3 ∧ Aside0 (spec_DutyCode.j0 kq l0 l1 x18_3 a2_0 a2_1 a2_2 a2_3 = some r) ∧ Aside0 (kq ≤ k) ∧ Aside0 (wc.heap[gb264]? = some (.cells #[.int .i64 a2_0, .int .i64 a2_1, .int .i64 a2_2, .int .i64 a2_3] 25 (0, 0))) ∧ Aside0 (Below w.heap.size w wc))
 case first =>
  have H := HC4.out; clear HC4
  replace H := Option.bind_eq_some_iff.mp H
  obtain ⟨t265, A60, H⟩ := H
  replace H : (if t265 = true then ((spec_RuleOk.f a2_0 a2_1 a2_2 a2_3).bind fun t266 => (spec_DutyCode.j0 k l0 l1 (!t266) a2_0 a2_1 a2_2 a2_3)) else (spec_DutyCode.j0 k l0 l1 true a2_0 a2_1 a2_2 a2_3)) = some r := H
  have A6 := Aside0.mk A60
  clear A60
  by_cases c7 : t265 = true
  · subst c7
    have H1 : ((spec_RuleOk.f a2_0 a2_1 a2_2 a2_3).bind fun t266 => (spec_DutyCode.j0 k l0 l1 (!t266) a2_0 a2_1 a2_2 a2_3)) = some r := by rw [if_pos rfl] at H; exact H
    clear H; have H := H1; clear H1
    replace H := Option.bind_eq_some_iff.mp H
    obtain ⟨t266, A80, H⟩ := H
    replace H : (spec_DutyCode.j0 k l0 l1 (!t266) a2_0 a2_1 a2_2 a2_3) = some r := H
    have A8 := Aside0.mk A80
    clear A80
    have H' := Aside0.mk H
    clear H
    go_wp2_with (first | ((with_reducible refine gate_callee (f := 34) rfl ?_); refine goesL_ (some 12) rfl rfl Try.func34 (by kernel_rfl) rfl #[.slice A0 l0.length c0, .slice A1 l1.length c1] rfl (by (try simp only [List.map_toArray, List.map_cons, List.map_nil]); first | done | rfl | (simp only [List.length_drop, List.length_take]; rfl)) ?_; (with_reducible refine (spec_l17Duty.calls k _ _ l0 _ _ l1 true _ ?side1 ?side2 ?side3 ?side4 A6.out).mono ?_); (case side1 => repeat (first | exact (Kd.C_below HR0.out HB.out) | (with_reducible refine Kd.C_alloc ?_ _) | (with_reducible refine Kd.C_drewN ?_ _) | (with_reducible refine Kd.C_drew ?_))); (case side2 => exact HC0.out); (case side3 => repeat (first | exact (Kd.C_below HR1.out HB.out) | (with_reducible refine Kd.C_alloc ?_ _) | (with_reducible refine Kd.C_drewN ?_ _) | (with_reducible refine Kd.C_drew ?_))); (case side4 => exact HC1.out); rintro e w9 ⟨rfl, hb⟩; refine ⟨_, rfl, ?_⟩; have n0_ := Aside0.mk (blk_below (g := gb264) (o := .cells #[.int .i64 a2_0, .int .i64 a2_1, .int .i64 a2_2, .int .i64 a2_3] 25 (0, 0)) (nB BK264.out) hb); have n1_ := Aside0.mk (below_step (nH1 HB.out GE264.out) hb); clear BK264; clear HB; have BK264 := n0_; have HB := n1_; clear n0_ n1_; (try clear hb); (try clear hb2); (try clear hk); (try clear hi); have hcz10_0 : w9.cell? ⟨gb264, 0, none⟩ = some (.int .i64 a2_0) := (blk_cell BK264.out 0).trans rfl; have hcz10_1 : w9.cell? ⟨gb264, 1, none⟩ = some (.int .i64 a2_1) := (blk_cell BK264.out 1).trans rfl; have hcz10_2 : w9.cell? ⟨gb264, 2, none⟩ = some (.int .i64 a2_2) := (blk_cell BK264.out 2).trans rfl; have hcz10_3 : w9.cell? ⟨gb264, 3, none⟩ = some (.int .i64 a2_3) := (blk_cell BK264.out 3).trans rfl; have hfz10_0 := blk_frozen BK264.out 0; have hfz10_1 := blk_frozen BK264.out 1; have hfz10_2 := blk_frozen BK264.out 2; have hfz10_3 := blk_frozen BK264.out 3) | (go_at_call 10; (with_reducible refine (spec_RuleOk.calls a2_0 a2_1 a2_2 a2_3 t266 _ A8.out).mono ?_); rintro e w11 ⟨rfl, hb⟩; have n0_ := Aside0.mk (blk_below (g := gb264) (o := .cells #[.int .i64 a2_0, .int .i64 a2_1, .int .i64 a2_2, .int .i64 a2_3] 25 (0, 0)) (nB BK264.out) hb); have n1_ := Aside0.mk (below_step (nH1 HB.out GE264.out) hb); clear BK264; clear HB; have BK264 := n0_; have HB := n1_; clear n0_ n1_; (try clear hb); (try clear hb2); (try clear hk); (try clear hi)))
    go_meet
    case rel => exact ⟨_, (!t266), nS, H', ⟨by first | omega | exact Nat.le_refl _⟩, ⟨by (with_reducible repeat (first | refine blk_drewN ?_ _ | refine blk_drew ?_ | refine blk_alloc ?_ _)); exact BK264.out⟩, ⟨nH1 HB.out GE264.out⟩⟩
  · replace c7 := Bool.eq_false_iff.mpr c7
    subst c7
    have H1 : (spec_DutyCode.j0 k l0 l1 true a2_0 a2_1 a2_2 a2_3) = some r := by rw [if_neg (show ¬ (false = true) by decide)] at H; exact H
    clear H; have H := H1; clear H1
    have H' := Aside0.mk H
    clear H
    go_wp2_with (first | ((with_reducible refine gate_callee (f := 34) rfl ?_); refine goesL_ (some 12) rfl rfl Try.func34 (by kernel_rfl) rfl #[.slice A0 l0.length c0, .slice A1 l1.length c1] rfl (by (try simp only [List.map_toArray, List.map_cons, List.map_nil]); first | done | rfl | (simp only [List.length_drop, List.length_take]; rfl)) ?_; (with_reducible refine (spec_l17Duty.calls k _ _ l0 _ _ l1 false _ ?side1 ?side2 ?side3 ?side4 A6.out).mono ?_); (case side1 => repeat (first | exact (Kd.C_below HR0.out HB.out) | (with_reducible refine Kd.C_alloc ?_ _) | (with_reducible refine Kd.C_drewN ?_ _) | (with_reducible refine Kd.C_drew ?_))); (case side2 => exact HC0.out); (case side3 => repeat (first | exact (Kd.C_below HR1.out HB.out) | (with_reducible refine Kd.C_alloc ?_ _) | (with_reducible refine Kd.C_drewN ?_ _) | (with_reducible refine Kd.C_drew ?_))); (case side4 => exact HC1.out); rintro e w12 ⟨rfl, hb⟩; refine ⟨_, rfl, ?_⟩; have n0_ := Aside0.mk (blk_below (g := gb264) (o := .cells #[.int .i64 a2_0, .int .i64 a2_1, .int .i64 a2_2, .int .i64 a2_3] 25 (0, 0)) (nB BK264.out) hb); have n1_ := Aside0.mk (below_step (nH1 HB.out GE264.out) hb); clear BK264; clear HB; have BK264 := n0_; have HB := n1_; clear n0_ n1_; (try clear hb); (try clear hb2); (try clear hk); (try clear hi)))
    go_meet
    case rel => exact ⟨_, (true), nS, H', ⟨by first | omega | exact Nat.le_refl _⟩, ⟨by (with_reducible repeat (first | refine blk_drewN ?_ _ | refine blk_drew ?_ | refine blk_alloc ?_ _)); exact BK264.out⟩, ⟨nH1 HB.out GE264.out⟩⟩
 case rest =>
  clear HC4; try clear c1; try clear c2; try clear p2; try clear c3; try clear c7; try clear hcz10_0; try clear hcz10_1; try clear hcz10_2; try clear hcz10_3; try clear hfz10_0; try clear hfz10_1; try clear hfz10_2; try clear hfz10_3
  obtain ⟨kq, x18_3, rfl, HA, HJ3, BK264, HB⟩ := hcut
  cases kq with
  | zero => exact absurd HA.out (by simp [spec_DutyCode.j0])
  | succ kj3 =>
   have H := HA.out; clear HA
   simp only [spec_DutyCode.j0] at H
   by_cases c13 : x18_3 = true
   · subst c13
     have H1 : (some 1) = some r := by rw [if_pos rfl] at H; exact H
     clear H; have H := H1; clear H1; obtain rfl := Option.some.inj H; go_wp2; go_ret
     exact ⟨by first | rfl | (simp [errW_none, errW_some] <;> rfl) | (simp [*, errW_none, errW_some] <;> first | rfl | (simp [wrap64]; done)), nH1 HB.out GE264.out⟩
   · replace c13 := Bool.eq_false_iff.mpr c13
     subst c13
     have H1 : (spec_DutyCode.l0 kj3 l0 l1 1 a2_0 a2_1 a2_2 a2_3) = some r := by rw [if_neg (show ¬ (false = true) by decide)] at H; exact H
     clear H; have H := H1; clear H1
     have H' := Aside0.mk H
     clear H; go_wp2
     go_loopg [7] kj3 (fun kq v7 w' => ∃ (x7_2 : Int), v7 = .int .i64 x7_2 ∧ Aside0 (spec_DutyCode.l0 kq l0 l1 x7_2 a2_0 a2_1 a2_2 a2_3 = some r) ∧ Aside0 (kq ≤ kj3) ∧ Aside0 (w'.heap[gb264]? = some (.cells #[.int .i64 a2_0, .int .i64 a2_1, .int .i64 a2_2, .int .i64 a2_3] 25 (0, 0))) ∧ Aside0 (Below w.heap.size w w'))
     case atStart => exact ⟨(1), nS, H', ⟨Nat.le_refl _⟩, ⟨by (with_reducible repeat (first | refine blk_drewN ?_ _ | refine blk_drew ?_ | refine blk_alloc ?_ _)); exact BK264.out⟩, ⟨nH1 HB.out GE264.out⟩⟩
     case round =>
      clear H'
      try clear c1; try clear c2; try clear p2; try clear c3; try clear p6; try clear c7; try clear c13; try clear hcz10_0; try clear hcz10_1; try clear hcz10_2; try clear hcz10_3; try clear hfz10_0; try clear hfz10_1; try clear hfz10_2; try clear hfz10_3; try clear p2
      obtain ⟨x7_2, rfl, HA, HK2, BK264, HB⟩ := hrel
      cases gk with
      | zero => exact absurd HA.out (by simp [spec_DutyCode.l0])
      | succ k2 =>
       have H := HA.out; clear HA
       simp only [spec_DutyCode.l0] at H
       by_cases c14 : x7_2 < (l1.length : Int)
       · rw [if_pos c14] at H
         have c14b0 : decide (x7_2 < (l1.length : Int)) = true := decide_eq_true c14
         clear c14
         obtain ⟨ji15, hji15⟩ : ∃ j_ : Int, (wrap64 (x7_2 - 1)) = j_ := ⟨_, rfl⟩
         replace H : (if 0 ≤ (ji15) then (if (ji15) < (l1.length : Int) then (if 0 ≤ (rd l1 (ji15)) then (if (rd l1 (ji15)) < (l0.length : Int) then (if 0 ≤ x7_2 then (if 0 ≤ (rd l1 x7_2) then (if (rd l1 x7_2) < (l0.length : Int) then (if ((rd_T52 l0 (rd l1 (ji15))).f1) = ((rd_T52 l0 (rd l1 x7_2)).f0) then (if ((rd_T52 l0 (rd l1 x7_2)).f2) < ((rd_T52 l0 (rd l1 (ji15))).f3) then (some 2) else (spec_DutyCode.l0 k2 l0 l1 (wrap64 (x7_2 + 1)) a2_0 a2_1 a2_2 a2_3)) else (some 2)) else (none)) else (none)) else (none)) else (none)) else (none)) else (none)) else (none)) = some r := by first | (rw [hji15] at H; exact H) | (simp only [hji15] at H ⊢; exact H)
         have hji15w : (IntKind.i64.wrap (x7_2 - 1)) = ji15 := (i64_w _).trans hji15
         by_cases c16 : 0 ≤ (ji15)
         rotate_left
         · (rw [if_neg c16] at H; exact absurd H (by simp))
         rw [if_pos c16] at H
         have c16b0 : decide (0 ≤ (ji15)) = true := decide_eq_true c16
         clear c16
         by_cases c17 : (ji15) < (l1.length : Int)
         rotate_left
         · (rw [if_neg c17] at H; exact absurd H (by simp))
         rw [if_pos c17] at H
         have c17b0 : decide ((ji15) < (l1.length : Int)) = true := decide_eq_true c17
         clear c17
         by_cases c18 : 0 ≤ (rd l1 (ji15))
         rotate_left
         · (rw [if_neg c18] at H; exact absurd H (by simp))
         rw [if_pos c18] at H
         have c18b0 : decide (0 ≤ (rd l1 (ji15))) = true := decide_eq_true c18
         clear c18
         by_cases c19 : (rd l1 (ji15)) < (l0.length : Int)
         rotate_left
         · (rw [if_neg c19] at H; exact absurd H (by simp))
         rw [if_pos c19] at H
         have c19b0 : decide ((rd l1 (ji15)) < (l0.length : Int)) = true := decide_eq_true c19
         clear c19
         by_cases c20 : 0 ≤ x7_2
         rotate_left
         · (rw [if_neg c20] at H; exact absurd H (by simp))
         rw [if_pos c20] at H
         have c20b0 : decide (0 ≤ x7_2) = true := decide_eq_true c20
         clear c20
         by_cases c21 : 0 ≤ (rd l1 x7_2)
         rotate_left
         · (rw [if_neg c21] at H; exact absurd H (by simp))
         rw [if_pos c21] at H
         have c21b0 : decide (0 ≤ (rd l1 x7_2)) = true := decide_eq_true c21
         clear c21
         by_cases c22 : (rd l1 x7_2) < (l0.length : Int)
         rotate_left
         · (rw [if_neg c22] at H; exact absurd H (by simp))
         rw [if_pos c22] at H
         have c22b0 : decide ((rd l1 x7_2) < (l0.length : Int)) = true := decide_eq_true c22
         clear c22
         by_cases c23 : ((rd_T52 l0 (rd l1 (ji15))).f1) = ((rd_T52 l0 (rd l1 x7_2)).f0)
         · rw [if_pos c23] at H
           have c23b0 : (((rd_T52 l0 (rd l1 (ji15))).f1) == ((rd_T52 l0 (rd l1 x7_2)).f0)) = true := beq_iff_eq.mpr c23
           have c23b1 : (((rd_T52 l0 (rd l1 (ji15))).f1) != ((rd_T52 l0 (rd l1 x7_2)).f0)) = false := bne_eq_false_iff_eq.mpr c23
           clear c23
           by_cases c24 : ((rd_T52 l0 (rd l1 x7_2)).f2) < ((rd_T52 l0 (rd l1 (ji15))).f3)
           · rw [if_pos c24] at H
             have c24b0 : decide (((rd_T52 l0 (rd l1 x7_2)).f2) < ((rd_T52 l0 (rd l1 (ji15))).f3)) = true := decide_eq_true c24
             clear c24; obtain rfl := Option.some.inj H
             try go_wp2
             have n0_ := Aside0.mk (blk_drew BK264.out)
             have n1_ := Aside0.mk (below_drew1 HB.out)
             clear BK264; clear HB; have BK264 := n0_; have HB := n1_; clear n0_ n1_
             have p267 : 0 ≤ ((ji15) : Int) := of_decide_eq_true nQ
             have q267 : (ji15) < (l1.length : Int) := of_decide_eq_true nQ
             obtain ⟨ad267, e267, hx267_0⟩ := Kd.at_int HR1.out (ji15) p267 q267
             have hw267_0 := hx267_0; cases e267
             replace hx267_0 := (HB.out.cell (World.block_lt_of_cell? w _ hx267_0)).trans hx267_0
             replace p267 := eq_true p267; replace q267 := eq_true q267
             have p268 : 0 ≤ ((rd l1 (ji15)) : Int) := of_decide_eq_true nQ
             have q268 : (rd l1 (ji15)) < (l0.length : Int) := of_decide_eq_true nQ
             obtain ⟨ad268, e268, hx268_0, hx268_1, hx268_2, hx268_3, hx268_4⟩ := at_T52 HR0.out (rd l1 (ji15)) p268 q268
             have hw268_4 := hx268_4; have hw268_3 := hx268_3; have hw268_2 := hx268_2; have hw268_1 := hx268_1; have hw268_0 := hx268_0; cases e268
             replace hx268_0 := (HB.out.cell (World.block_lt_of_cell? w _ hx268_0)).trans hx268_0
             replace hx268_1 := (HB.out.cell (World.block_lt_of_cell? w _ hx268_1)).trans hx268_1
             replace hx268_2 := (HB.out.cell (World.block_lt_of_cell? w _ hx268_2)).trans hx268_2
             replace hx268_3 := (HB.out.cell (World.block_lt_of_cell? w _ hx268_3)).trans hx268_3
             replace hx268_4 := (HB.out.cell (World.block_lt_of_cell? w _ hx268_4)).trans hx268_4
             replace p268 := eq_true p268; replace q268 := eq_true q268
             have p269 : 0 ≤ (x7_2 : Int) := of_decide_eq_true nQ
             have q269 : x7_2 < (l1.length : Int) := of_decide_eq_true nQ
             obtain ⟨ad269, e269, hx269_0⟩ := Kd.at_int HR1.out x7_2 p269 q269
             have hw269_0 := hx269_0
             obtain rfl : ad267 = ad269 := (by injection e269)
             replace hx269_0 := (HB.out.cell (World.block_lt_of_cell? w _ hx269_0)).trans hx269_0
             replace p269 := eq_true p269; replace q269 := eq_true q269
             have p270 : 0 ≤ ((rd l1 x7_2) : Int) := of_decide_eq_true nQ
             have q270 : (rd l1 x7_2) < (l0.length : Int) := of_decide_eq_true nQ
             obtain ⟨ad270, e270, hx270_0, hx270_1, hx270_2, hx270_3, hx270_4⟩ := at_T52 HR0.out (rd l1 x7_2) p270 q270
             have hw270_4 := hx270_4; have hw270_3 := hx270_3; have hw270_2 := hx270_2; have hw270_1 := hx270_1; have hw270_0 := hx270_0
             obtain rfl : ad268 = ad270 := (by injection e270)
             replace hx270_0 := (HB.out.cell (World.block_lt_of_cell? w _ hx270_0)).trans hx270_0
             replace hx270_1 := (HB.out.cell (World.block_lt_of_cell? w _ hx270_1)).trans hx270_1
             replace hx270_2 := (HB.out.cell (World.block_lt_of_cell? w _ hx270_2)).trans hx270_2
             replace hx270_3 := (HB.out.cell (World.block_lt_of_cell? w _ hx270_3)).trans hx270_3
             replace hx270_4 := (HB.out.cell (World.block_lt_of_cell? w _ hx270_4)).trans hx270_4
             replace p270 := eq_true p270; replace q270 := eq_true q270
             refine start_ (n := 19) (S := fun w' => w'.cell? (ad267.add ((ji15)).toNat) = some (.int .i64 (rd l1 (ji15))) ∧ w'.cell? (ad268.add (((rd l1 (ji15))).toNat * 5)) = some (.int .i64 ((rd_T52 l0 (rd l1 (ji15))).f0)) ∧ w'.cell? ⟨(ad268.add (((rd l1 (ji15))).toNat * 5)).block, (ad268.add (((rd l1 (ji15))).toNat * 5)).off + 1, none⟩ = some (.int .i64 ((rd_T52 l0 (rd l1 (ji15))).f1)) ∧ w'.cell? ⟨(ad268.add (((rd l1 (ji15))).toNat * 5)).block, (ad268.add (((rd l1 (ji15))).toNat * 5)).off + 2, none⟩ = some (.int .i64 ((rd_T52 l0 (rd l1 (ji15))).f2)) ∧ w'.cell? ⟨(ad268.add (((rd l1 (ji15))).toNat * 5)).block, (ad268.add (((rd l1 (ji15))).toNat * 5)).off + 3, none⟩ = some (.int .i64 ((rd_T52 l0 (rd l1 (ji15))).f3)) ∧ w'.cell? ⟨(ad268.add (((rd l1 (ji15))).toNat * 5)).block, (ad268.add (((rd l1 (ji15))).toNat * 5)).off + 4, none⟩ = some (.int .i64 ((rd_T52 l0 (rd l1 (ji15))).f4)) ∧ w'.cell? (ad267.add (x7_2).toNat) = some (.int .i64 (rd l1 x7_2)) ∧ w'.cell? (ad268.add (((rd l1 x7_2)).toNat * 5)) = some (.int .i64 ((rd_T52 l0 (rd l1 x7_2)).f0)) ∧ w'.cell? ⟨(ad268.add (((rd l1 x7_2)).toNat * 5)).block, (ad268.add (((rd l1 x7_2)).toNat * 5)).off + 1, none⟩ = some (.int .i64 ((rd_T52 l0 (rd l1 x7_2)).f1)) ∧ w'.cell? ⟨(ad268.add (((rd l1 x7_2)).toNat * 5)).block, (ad268.add (((rd l1 x7_2)).toNat * 5)).off + 2, none⟩ = some (.int .i64 ((rd_T52 l0 (rd l1 x7_2)).f2)) ∧ w'.cell? ⟨(ad268.add (((rd l1 x7_2)).toNat * 5)).block, (ad268.add (((rd l1 x7_2)).toNat * 5)).off + 3, none⟩ = some (.int .i64 ((rd_T52 l0 (rd l1 x7_2)).f3)) ∧ w'.cell? ⟨(ad268.add (((rd l1 x7_2)).toNat * 5)).block, (ad268.add (((rd l1 x7_2)).toNat * 5)).off + 4, none⟩ = some (.int .i64 ((rd_T52 l0 (rd l1 x7_2)).f4))) (ds := []) #[F,F,F,F,F,F,F,F,F,F,F,F,F,F,F,F,F,F,F] (by kernel_rfl) rfl rfl ⟨(nC HB.out hw267_0 :), (nC HB.out hw268_0 :), (nC HB.out hw268_1 :), (nC HB.out hw268_2 :), (nC HB.out hw268_3 :), (nC HB.out hw268_4 :), (nC HB.out hw269_0 :), (nC HB.out hw270_0 :), (nC HB.out hw270_1 :), (nC HB.out hw270_2 :), (nC HB.out hw270_3 :), (nC HB.out hw270_4 :)⟩ (fun hHeld => ?_); refine with_tabW spec_DutyCode.tab6 spec_DutyCode.bits6 (fun HT_ HW_ => ?_)
             generalize wr.drew = w25 at BK264 HB hx267_0 hx268_0 hx268_1 hx268_2 hx268_3 hx268_4 hx269_0 hx270_0 hx270_1 hx270_2 hx270_3 hx270_4 hHeld ⊢
             refine pU 0 (some 25) #[T,F,F,F,F,F,F,F,F,F,F,F,F,F,F,F,F,F,F] rfl rfl HT_.out ?_
             refine pU 1 (some 26) #[T,T,F,F,F,F,F,F,F,F,F,F,F,F,F,F,F,F,F] rfl rfl HT_.out ?_
             refine pU 2 (some 27) #[T,T,T,F,F,F,F,F,F,F,F,F,F,F,F,F,F,F,F] rfl rfl HT_.out ?_
             refine pU 3 (some 28) #[T,T,T,T,F,F,F,F,F,F,F,F,F,F,F,F,F,F,F] rfl rfl HT_.out ?_
             refine pU 4 (some 29) #[T,T,T,T,T,F,F,F,F,F,F,F,F,F,F,F,F,F,F] rfl rfl HT_.out ?_
             refine pU 8 (some 33) #[T,T,T,T,T,F,F,F,T,F,F,F,F,F,F,F,F,F,F] rfl rfl HT_.out ?_
             refine pU 9 (some 34) #[T,T,T,T,T,F,F,F,T,T,F,F,F,F,F,F,F,F,F] rfl rfl HT_.out ?_
             refine pU 10 (some 35) #[T,T,T,T,T,F,F,F,T,T,T,F,F,F,F,F,F,F,F] rfl rfl HT_.out ?_
             refine pU 11 (some 36) #[T,T,T,T,T,F,F,F,T,T,T,T,F,F,F,F,F,F,F] rfl rfl HT_.out ?_
             refine tU12 5 (some 30) #[T,T,T,T,T,T,F,F,T,T,T,T,F,F,F,F,F,F,F] rfl rfl HT_.out HW_.out hHeld ?_
             refine pU 6 (some 31) #[T,T,T,T,T,T,T,F,T,T,T,T,F,F,F,F,F,F,F] rfl rfl HT_.out ?_
             refine tU12 7 (some 32) #[T,T,T,T,T,T,T,T,T,T,T,T,F,F,F,F,F,F,F] rfl rfl HT_.out HW_.out hHeld ?_
             refine tU12 12 (some 37) #[T,T,T,T,T,T,T,T,T,T,T,T,T,F,F,F,F,F,F] rfl rfl HT_.out HW_.out hHeld ?_
             refine pU 13 (some 38) #[T,T,T,T,T,T,T,T,T,T,T,T,T,T,F,F,F,F,F] rfl rfl HT_.out ?_
             refine tU12 14 (some 39) #[T,T,T,T,T,T,T,T,T,T,T,T,T,T,T,F,F,F,F] rfl rfl HT_.out HW_.out hHeld ?_
             refine join_ (σ := Nat × Nat) 2 #[T,T,T,T,T,T,T,T,T,T,T,T,T,T,T,T,T,F,F] (fun s_ => [(8, .pointer (some ⟨s_.1, 0, none⟩)), (9, .pointer (some ⟨s_.2, 0, none⟩))]) (fun s_ w' => (w'.cell? (ad267.add ((ji15)).toNat) = some (.int .i64 (rd l1 (ji15))) ∧ w'.cell? (ad268.add (((rd l1 (ji15))).toNat * 5)) = some (.int .i64 ((rd_T52 l0 (rd l1 (ji15))).f0)) ∧ w'.cell? ⟨(ad268.add (((rd l1 (ji15))).toNat * 5)).block, (ad268.add (((rd l1 (ji15))).toNat * 5)).off + 1, none⟩ = some (.int .i64 ((rd_T52 l0 (rd l1 (ji15))).f1)) ∧ w'.cell? ⟨(ad268.add (((rd l1 (ji15))).toNat * 5)).block, (ad268.add (((rd l1 (ji15))).toNat * 5)).off + 2, none⟩ = some (.int .i64 ((rd_T52 l0 (rd l1 (ji15))).f2)) ∧ w'.cell? ⟨(ad268.add (((rd l1 (ji15))).toNat * 5)).block, (ad268.add (((rd l1 (ji15))).toNat * 5)).off + 3, none⟩ = some (.int .i64 ((rd_T52 l0 (rd l1 (ji15))).f3)) ∧ w'.cell? ⟨(ad268.add (((rd l1 (ji15))).toNat * 5)).block, (ad268.add (((rd l1 (ji15))).toNat * 5)).off + 4, none⟩ = some (.int .i64 ((rd_T52 l0 (rd l1 (ji15))).f4)) ∧ w'.cell? (ad267.add (x7_2).toNat) = some (.int .i64 (rd l1 x7_2)) ∧ w'.cell? (ad268.add (((rd l1 x7_2)).toNat * 5)) = some (.int .i64 ((rd_T52 l0 (rd l1 x7_2)).f0)) ∧ w'.cell? ⟨(ad268.add (((rd l1 x7_2)).toNat * 5)).block, (ad268.add (((rd l1 x7_2)).toNat * 5)).off + 1, none⟩ = some (.int .i64 ((rd_T52 l0 (rd l1 x7_2)).f1)) ∧ w'.cell? ⟨(ad268.add (((rd l1 x7_2)).toNat * 5)).block, (ad268.add (((rd l1 x7_2)).toNat * 5)).off + 2, none⟩ = some (.int .i64 ((rd_T52 l0 (rd l1 x7_2)).f2)) ∧ w'.cell? ⟨(ad268.add (((rd l1 x7_2)).toNat * 5)).block, (ad268.add (((rd l1 x7_2)).toNat * 5)).off + 3, none⟩ = some (.int .i64 ((rd_T52 l0 (rd l1 x7_2)).f3)) ∧ w'.cell? ⟨(ad268.add (((rd l1 x7_2)).toNat * 5)).block, (ad268.add (((rd l1 x7_2)).toNat * 5)).off + 4, none⟩ = some (.int .i64 ((rd_T52 l0 (rd l1 x7_2)).f4))) ∧ (w'.heap[gb264]? = some (.cells #[.int .i64 a2_0, .int .i64 a2_1, .int .i64 a2_2, .int .i64 a2_3] 25 (0, 0))) ∧ (w'.heap[s_.1]? = some (.cells #[.int .i64 0, .int .i64 0, .int .i64 0, .int .i64 0, .int .i64 0] 52 (0, 0))) ∧ (w'.heap[s_.2]? = some (.cells #[.int .i64 0, .int .i64 0, .int .i64 0, .int .i64 0, .int .i64 0] 52 (0, 0))) ∧ (w.heap.size ≤ s_.1) ∧ (w.heap.size ≤ s_.1) ∧ (gb264 ≠ s_.1) ∧ (s_.1 ≠ gb264) ∧ (s_.2 ≠ s_.1) ∧ (s_.1 ≠ s_.2) ∧ (w.heap.size ≤ s_.2) ∧ (w.heap.size ≤ s_.2) ∧ (gb264 ≠ s_.2) ∧ (s_.2 ≠ gb264) ∧ (Below w.heap.size w w')) ?_ ?_
             rotate_left
             · intro hCont
               refine two_ (i := 15) (j := 16) (Ni := some 8) (Nj := some 9) #[T,T,T,T,T,T,T,T,T,T,T,T,T,T,T,T,F,F,F] #[T,T,T,T,T,T,T,T,T,T,T,T,T,T,T,F,T,F,F] rfl rfl rfl rfl (two_of HT_.out (by kernel_rfl)) (by decide) (by decide) (fun K hK => ?_) (fun K hK => ?_)
               · skip
                 refine box_step ?hg (N := 8) ?hd (cs := #[.int .i64 0, .int .i64 0, .int .i64 0, .int .i64 0, .int .i64 0]) (t := 52) ?hr ?_; (case hd => rfl); (case hg => rfl); (case hr => first | (go_simp; done) | (go_simp; rfl))
                 intro gb271 hg w26 hbox hb
                 have n0_ := Aside0.mk (blk_below (g := gb264) (o := .cells #[.int .i64 a2_0, .int .i64 a2_1, .int .i64 a2_2, .int .i64 a2_3] 25 (0, 0)) (nB BK264.out) hb)
                 have n1_ := Aside0.mk (below_step (nH1 HB.out GE264.out) hb)
                 have n2_ := Aside0.mk (hbox)
                 have n3_ := Aside0.mk ((by rw [hg]; exact (below_size (nH1 HB.out GE264.out)) : w.heap.size ≤ gb271))
                 have n4_ := Aside0.mk ((by rw [hg]; exact (below_size (nH1 HB.out GE264.out)) : w.heap.size ≤ gb271))
                 have n5_ := Aside0.mk ((by rw [hg]; exact Nat.ne_of_lt (blk_lt (g := gb264) (o := .cells #[.int .i64 a2_0, .int .i64 a2_1, .int .i64 a2_2, .int .i64 a2_3] 25 (0, 0)) (nB BK264.out)) : gb264 ≠ gb271))
                 have n6_ := Aside0.mk ((by rw [hg]; exact Nat.ne_of_gt (blk_lt (g := gb264) (o := .cells #[.int .i64 a2_0, .int .i64 a2_1, .int .i64 a2_2, .int .i64 a2_3] 25 (0, 0)) (nB BK264.out)) : gb271 ≠ gb264))
                 clear BK264; clear HB; have BK264 := n0_; have HB := n1_; have BK271 := n2_; have GW271 := n3_; have GE271 := n4_; have NB264_271 := n5_; have NB271_264 := n6_; clear n0_ n1_ n2_ n3_ n4_ n5_ n6_; clear hb hbox hg
                 refine hK.out _ _ ⟨(nC HB.out hw267_0 :), (nC HB.out hw268_0 :), (nC HB.out hw268_1 :), (nC HB.out hw268_2 :), (nC HB.out hw268_3 :), (nC HB.out hw268_4 :), (nC HB.out hw269_0 :), (nC HB.out hw270_0 :), (nC HB.out hw270_1 :), (nC HB.out hw270_2 :), (nC HB.out hw270_3 :), (nC HB.out hw270_4 :)⟩ (fun hHeld => ?_)
                 clear hK K
                 refine norm_ (a' := ?_) ?_ ?_
                 rotate_left
                 · show Act.put _ (some 8) _ = _
                   simp only [Act.put, List.setIfInBounds_toArray, List.set_cons_zero, List.set_cons_succ, i64_w, i32_w]
                   rfl
                 refine one_ (i := 16) (N := some 9) #[T,T,T,T,T,T,T,T,T,T,T,T,T,T,T,T,T,F,F] rfl rfl (one_of HT_.out (by kernel_rfl)) (by decide) (fun K hK => ?_)
                 refine box_step ?hg (N := 9) ?hd (cs := #[.int .i64 0, .int .i64 0, .int .i64 0, .int .i64 0, .int .i64 0]) (t := 52) ?hr ?_; (case hd => rfl); (case hg => rfl); (case hr => first | (go_simp; done) | (go_simp; rfl))
                 intro gb272 hg w27 hbox hb
                 have n0_ := Aside0.mk (blk_below (g := gb264) (o := .cells #[.int .i64 a2_0, .int .i64 a2_1, .int .i64 a2_2, .int .i64 a2_3] 25 (0, 0)) (nB BK264.out) hb)
                 have n1_ := Aside0.mk (blk_below (g := gb271) (o := .cells #[.int .i64 0, .int .i64 0, .int .i64 0, .int .i64 0, .int .i64 0] 52 (0, 0)) (nB BK271.out) hb)
                 have n2_ := Aside0.mk (below_step (nH2 HB.out GE264.out GE271.out) hb)
                 have n3_ := Aside0.mk (hbox)
                 have n4_ := Aside0.mk ((by rw [hg]; exact (below_size (nH2 HB.out GE264.out GE271.out)) : w.heap.size ≤ gb272))
                 have n5_ := Aside0.mk ((by rw [hg]; exact (below_size (nH2 HB.out GE264.out GE271.out)) : w.heap.size ≤ gb272))
                 have n6_ := Aside0.mk ((by rw [hg]; exact Nat.ne_of_lt (blk_lt (g := gb264) (o := .cells #[.int .i64 a2_0, .int .i64 a2_1, .int .i64 a2_2, .int .i64 a2_3] 25 (0, 0)) (nB BK264.out)) : gb264 ≠ gb272))
                 have n7_ := Aside0.mk ((by rw [hg]; exact Nat.ne_of_gt (blk_lt (g := gb264) (o := .cells #[.int .i64 a2_0, .int .i64 a2_1, .int .i64 a2_2, .int .i64 a2_3] 25 (0, 0)) (nB BK264.out)) : gb272 ≠ gb264))
                 have n8_ := Aside0.mk ((by rw [hg]; exact Nat.ne_of_lt (blk_lt (g := gb271) (o := .cells #[.int .i64 0, .int .i64 0, .int .i64 0, .int .i64 0, .int .i64 0] 52 (0, 0)) (nB BK271.out)) : gb271 ≠ gb272))
                 have n9_ := Aside0.mk ((by rw [hg]; exact Nat.ne_of_gt (blk_lt (g := gb271) (o := .cells #[.int .i64 0, .int .i64 0, .int .i64 0, .int .i64 0, .int .i64 0] 52 (0, 0)) (nB BK271.out)) : gb272 ≠ gb271))
                 clear BK264; clear BK271; clear HB; have BK264 := n0_; have BK271 := n1_; have HB := n2_; have BK272 := n3_; have GW272 := n4_; have GE272 := n5_; have NB264_272 := n6_; have NB272_264 := n7_; have NB271_272 := n8_; have NB272_271 := n9_; clear n0_ n1_ n2_ n3_ n4_ n5_ n6_ n7_ n8_ n9_; clear hb hbox hg
                 refine hK.out _ _ ⟨(nC HB.out hw267_0 :), (nC HB.out hw268_0 :), (nC HB.out hw268_1 :), (nC HB.out hw268_2 :), (nC HB.out hw268_3 :), (nC HB.out hw268_4 :), (nC HB.out hw269_0 :), (nC HB.out hw270_0 :), (nC HB.out hw270_1 :), (nC HB.out hw270_2 :), (nC HB.out hw270_3 :), (nC HB.out hw270_4 :)⟩ (fun hHeld => ?_)
                 clear hK K
                 refine norm_ (a' := ?_) ?_ ?_
                 rotate_left
                 · show Act.put _ (some 9) _ = _
                   simp only [Act.put, List.setIfInBounds_toArray, List.set_cons_zero, List.set_cons_succ, i64_w, i32_w]
                   rfl
                 exact norm_ (by simp only [putAll, Act.put, List.setIfInBounds_toArray, List.set_cons_zero, List.set_cons_succ]) (hCont (gb271, gb272) _ ⟨hHeld, (nB BK264.out), (nB BK271.out), (nB BK272.out), GW271.out, GE271.out, NB264_271.out, NB271_264.out, NB272_271.out, NB271_272.out, GW272.out, GE272.out, NB264_272.out, NB272_264.out, (nH3 HB.out GE264.out GE271.out GE272.out)⟩)
               · skip
                 refine box_step ?hg (N := 9) ?hd (cs := #[.int .i64 0, .int .i64 0, .int .i64 0, .int .i64 0, .int .i64 0]) (t := 52) ?hr ?_; (case hd => rfl); (case hg => rfl); (case hr => first | (go_simp; done) | (go_simp; rfl))
                 intro gb272 hg w26 hbox hb
                 have n0_ := Aside0.mk (blk_below (g := gb264) (o := .cells #[.int .i64 a2_0, .int .i64 a2_1, .int .i64 a2_2, .int .i64 a2_3] 25 (0, 0)) (nB BK264.out) hb)
                 have n1_ := Aside0.mk (below_step (nH1 HB.out GE264.out) hb)
                 have n2_ := Aside0.mk (hbox)
                 have n3_ := Aside0.mk ((by rw [hg]; exact (below_size (nH1 HB.out GE264.out)) : w.heap.size ≤ gb272))
                 have n4_ := Aside0.mk ((by rw [hg]; exact (below_size (nH1 HB.out GE264.out)) : w.heap.size ≤ gb272))
                 have n5_ := Aside0.mk ((by rw [hg]; exact Nat.ne_of_lt (blk_lt (g := gb264) (o := .cells #[.int .i64 a2_0, .int .i64 a2_1, .int .i64 a2_2, .int .i64 a2_3] 25 (0, 0)) (nB BK264.out)) : gb264 ≠ gb272))
                 have n6_ := Aside0.mk ((by rw [hg]; exact Nat.ne_of_gt (blk_lt (g := gb264) (o := .cells #[.int .i64 a2_0, .int .i64 a2_1, .int .i64 a2_2, .int .i64 a2_3] 25 (0, 0)) (nB BK264.out)) : gb272 ≠ gb264))
                 clear BK264; clear HB; have BK264 := n0_; have HB := n1_; have BK272 := n2_; have GW272 := n3_; have GE272 := n4_; have NB264_272 := n5_; have NB272_264 := n6_; clear n0_ n1_ n2_ n3_ n4_ n5_ n6_; clear hb hbox hg
                 refine hK.out _ _ ⟨(nC HB.out hw267_0 :), (nC HB.out hw268_0 :), (nC HB.out hw268_1 :), (nC HB.out hw268_2 :), (nC HB.out hw268_3 :), (nC HB.out hw268_4 :), (nC HB.out hw269_0 :), (nC HB.out hw270_0 :), (nC HB.out hw270_1 :), (nC HB.out hw270_2 :), (nC HB.out hw270_3 :), (nC HB.out hw270_4 :)⟩ (fun hHeld => ?_)
                 clear hK K
                 refine norm_ (a' := ?_) ?_ ?_
                 rotate_left
                 · show Act.put _ (some 9) _ = _
                   simp only [Act.put, List.setIfInBounds_toArray, List.set_cons_zero, List.set_cons_succ, i64_w, i32_w]
                   rfl
                 refine one_ (i := 15) (N := some 8) #[T,T,T,T,T,T,T,T,T,T,T,T,T,T,T,T,T,F,F] rfl rfl (one_of HT_.out (by kernel_rfl)) (by decide) (fun K hK => ?_)
                 refine box_step ?hg (N := 8) ?hd (cs := #[.int .i64 0, .int .i64 0, .int .i64 0, .int .i64 0, .int .i64 0]) (t := 52) ?hr ?_; (case hd => rfl); (case hg => rfl); (case hr => first | (go_simp; done) | (go_simp; rfl))
                 intro gb271 hg w27 hbox hb
                 have n0_ := Aside0.mk (blk_below (g := gb264) (o := .cells #[.int .i64 a2_0, .int .i64 a2_1, .int .i64 a2_2, .int .i64 a2_3] 25 (0, 0)) (nB BK264.out) hb)
                 have n1_ := Aside0.mk (blk_below (g := gb272) (o := .cells #[.int .i64 0, .int .i64 0, .int .i64 0, .int .i64 0, .int .i64 0] 52 (0, 0)) (nB BK272.out) hb)
                 have n2_ := Aside0.mk (below_step (nH2 HB.out GE264.out GE272.out) hb)
                 have n3_ := Aside0.mk (hbox)
                 have n4_ := Aside0.mk ((by rw [hg]; exact (below_size (nH2 HB.out GE264.out GE272.out)) : w.heap.size ≤ gb271))
                 have n5_ := Aside0.mk ((by rw [hg]; exact (below_size (nH2 HB.out GE264.out GE272.out)) : w.heap.size ≤ gb271))
                 have n6_ := Aside0.mk ((by rw [hg]; exact Nat.ne_of_lt (blk_lt (g := gb264) (o := .cells #[.int .i64 a2_0, .int .i64 a2_1, .int .i64 a2_2, .int .i64 a2_3] 25 (0, 0)) (nB BK264.out)) : gb264 ≠ gb271))
                 have n7_ := Aside0.mk ((by rw [hg]; exact Nat.ne_of_gt (blk_lt (g := gb264) (o := .cells #[.int .i64 a2_0, .int .i64 a2_1, .int .i64 a2_2, .int .i64 a2_3] 25 (0, 0)) (nB BK264.out)) : gb271 ≠ gb264))
                 have n8_ := Aside0.mk ((by rw [hg]; exact Nat.ne_of_lt (blk_lt (g := gb272) (o := .cells #[.int .i64 0, .int .i64 0, .int .i64 0, .int .i64 0, .int .i64 0] 52 (0, 0)) (nB BK272.out)) : gb272 ≠ gb271))
                 have n9_ := Aside0.mk ((by rw [hg]; exact Nat.ne_of_gt (blk_lt (g := gb272) (o := .cells #[.int .i64 0, .int .i64 0, .int .i64 0, .int .i64 0, .int .i64 0] 52 (0, 0)) (nB BK272.out)) : gb271 ≠ gb272))
                 clear BK264; clear BK272; clear HB; have BK264 := n0_; have BK272 := n1_; have HB := n2_; have BK271 := n3_; have GW271 := n4_; have GE271 := n5_; have NB264_271 := n6_; have NB271_264 := n7_; have NB272_271 := n8_; have NB271_272 := n9_; clear n0_ n1_ n2_ n3_ n4_ n5_ n6_ n7_ n8_ n9_; clear hb hbox hg
                 refine hK.out _ _ ⟨(nC HB.out hw267_0 :), (nC HB.out hw268_0 :), (nC HB.out hw268_1 :), (nC HB.out hw268_2 :), (nC HB.out hw268_3 :), (nC HB.out hw268_4 :), (nC HB.out hw269_0 :), (nC HB.out hw270_0 :), (nC HB.out hw270_1 :), (nC HB.out hw270_2 :), (nC HB.out hw270_3 :), (nC HB.out hw270_4 :)⟩ (fun hHeld => ?_)
                 clear hK K
                 refine norm_ (a' := ?_) ?_ ?_
                 rotate_left
                 · show Act.put _ (some 8) _ = _
                   simp only [Act.put, List.setIfInBounds_toArray, List.set_cons_zero, List.set_cons_succ, i64_w, i32_w]
                   rfl
                 exact norm_ (by simp only [putAll, Act.put, List.setIfInBounds_toArray, List.set_cons_zero, List.set_cons_succ]) (hCont (gb271, gb272) _ ⟨hHeld, (nB BK264.out), (nB BK271.out), (nB BK272.out), GW271.out, GE271.out, NB264_271.out, NB271_264.out, NB272_271.out, NB271_272.out, GW272.out, GE272.out, NB264_272.out, NB272_264.out, (nH3 HB.out GE264.out GE272.out GE271.out)⟩)
             rintro ⟨gb271, gb272⟩ w28 ⟨hS_, h0_, h1_, h2_, h3_, h4_, h5_, h6_, h7_, h8_, h9_, h10_, h11_, h12_, h13_⟩
             have n0_ : Aside0 (w28.heap[gb264]? = some (.cells #[.int .i64 a2_0, .int .i64 a2_1, .int .i64 a2_2, .int .i64 a2_3] 25 (0, 0))) := ⟨h0_⟩
             have n1_ : Aside0 (w28.heap[gb271]? = some (.cells #[.int .i64 0, .int .i64 0, .int .i64 0, .int .i64 0, .int .i64 0] 52 (0, 0))) := ⟨h1_⟩
             have n2_ : Aside0 (w28.heap[gb272]? = some (.cells #[.int .i64 0, .int .i64 0, .int .i64 0, .int .i64 0, .int .i64 0] 52 (0, 0))) := ⟨h2_⟩
             have n3_ : Aside0 (w.heap.size ≤ gb271) := ⟨h3_⟩
             have n4_ : Aside0 (w.heap.size ≤ gb271) := ⟨h4_⟩
             have n5_ : Aside0 (gb264 ≠ gb271) := ⟨h5_⟩
             have n6_ : Aside0 (gb271 ≠ gb264) := ⟨h6_⟩
             have n7_ : Aside0 (gb272 ≠ gb271) := ⟨h7_⟩
             have n8_ : Aside0 (gb271 ≠ gb272) := ⟨h8_⟩
             have n9_ : Aside0 (w.heap.size ≤ gb272) := ⟨h9_⟩
             have n10_ : Aside0 (w.heap.size ≤ gb272) := ⟨h10_⟩
             have n11_ : Aside0 (gb264 ≠ gb272) := ⟨h11_⟩
             have n12_ : Aside0 (gb272 ≠ gb264) := ⟨h12_⟩
             have n13_ : Aside0 (Below w.heap.size w w28) := ⟨h13_⟩
             clear BK264; clear HB; clear h0_ h1_ h2_ h3_ h4_ h5_ h6_ h7_ h8_ h9_ h10_ h11_ h12_ h13_; have BK264 := n0_; have BK271 := n1_; have BK272 := n2_; have GW271 := n3_; have GE271 := n4_; have NB264_271 := n5_; have NB271_264 := n6_; have NB272_271 := n7_; have NB271_272 := n8_; have GW272 := n9_; have GE272 := n10_; have NB264_272 := n11_; have NB272_264 := n12_; have HB := n13_; clear n0_ n1_ n2_ n3_ n4_ n5_ n6_ n7_ n8_ n9_ n10_ n11_ n12_ n13_
             have hHeld : w28.cell? (ad267.add ((ji15)).toNat) = some (.int .i64 (rd l1 (ji15))) ∧ w28.cell? (ad268.add (((rd l1 (ji15))).toNat * 5)) = some (.int .i64 ((rd_T52 l0 (rd l1 (ji15))).f0)) ∧ w28.cell? ⟨(ad268.add (((rd l1 (ji15))).toNat * 5)).block, (ad268.add (((rd l1 (ji15))).toNat * 5)).off + 1, none⟩ = some (.int .i64 ((rd_T52 l0 (rd l1 (ji15))).f1)) ∧ w28.cell? ⟨(ad268.add (((rd l1 (ji15))).toNat * 5)).block, (ad268.add (((rd l1 (ji15))).toNat * 5)).off + 2, none⟩ = some (.int .i64 ((rd_T52 l0 (rd l1 (ji15))).f2)) ∧ w28.cell? ⟨(ad268.add (((rd l1 (ji15))).toNat * 5)).block, (ad268.add (((rd l1 (ji15))).toNat * 5)).off + 3, none⟩ = some (.int .i64 ((rd_T52 l0 (rd l1 (ji15))).f3)) ∧ w28.cell? ⟨(ad268.add (((rd l1 (ji15))).toNat * 5)).block, (ad268.add (((rd l1 (ji15))).toNat * 5)).off + 4, none⟩ = some (.int .i64 ((rd_T52 l0 (rd l1 (ji15))).f4)) ∧ w28.cell? (ad267.add (x7_2).toNat) = some (.int .i64 (rd l1 x7_2)) ∧ w28.cell? (ad268.add (((rd l1 x7_2)).toNat * 5)) = some (.int .i64 ((rd_T52 l0 (rd l1 x7_2)).f0)) ∧ w28.cell? ⟨(ad268.add (((rd l1 x7_2)).toNat * 5)).block, (ad268.add (((rd l1 x7_2)).toNat * 5)).off + 1, none⟩ = some (.int .i64 ((rd_T52 l0 (rd l1 x7_2)).f1)) ∧ w28.cell? ⟨(ad268.add (((rd l1 x7_2)).toNat * 5)).block, (ad268.add (((rd l1 x7_2)).toNat * 5)).off + 2, none⟩ = some (.int .i64 ((rd_T52 l0 (rd l1 x7_2)).f2)) ∧ w28.cell? ⟨(ad268.add (((rd l1 x7_2)).toNat * 5)).block, (ad268.add (((rd l1 x7_2)).toNat * 5)).off + 3, none⟩ = some (.int .i64 ((rd_T52 l0 (rd l1 x7_2)).f3)) ∧ w28.cell? ⟨(ad268.add (((rd l1 x7_2)).toNat * 5)).block, (ad268.add (((rd l1 x7_2)).toNat * 5)).off + 4, none⟩ = some (.int .i64 ((rd_T52 l0 (rd l1 x7_2)).f4)) := hS_
             refine norm_ (a' := ?_) ?_ ?_
             rotate_left
             · simp only [putAll, Act.put, List.setIfInBounds_toArray, List.set_cons_zero, List.set_cons_succ]
               rfl
             refine one_ (i := 17) (N := none) #[T,T,T,T,T,T,T,T,T,T,T,T,T,T,T,T,T,T,F] rfl rfl (one_of HT_.out (by kernel_rfl)) (by decide) (fun K hK => ?_)
             have hs29 : w28.cell? ⟨gb271, 0, none⟩ = some (.int .i64 0) := (blk_cell BK271.out 0).trans rfl
             have hfs29 := blk_frozen BK271.out 0
             have hns29_0 := NB264_271.out; have hns29_2 := NB272_271.out; have hms29_0 := NB271_264.out; have hms29_2 := NB271_272.out
             have hs30 : w28.cell? ⟨gb271, 1, none⟩ = some (.int .i64 0) := (blk_cell BK271.out 1).trans rfl
             have hfs30 := blk_frozen BK271.out 1
             have hns30_0 := NB264_271.out; have hns30_2 := NB272_271.out; have hms30_0 := NB271_264.out; have hms30_2 := NB271_272.out
             have hs31 : w28.cell? ⟨gb271, 2, none⟩ = some (.int .i64 0) := (blk_cell BK271.out 2).trans rfl
             have hfs31 := blk_frozen BK271.out 2
             have hns31_0 := NB264_271.out; have hns31_2 := NB272_271.out; have hms31_0 := NB271_264.out; have hms31_2 := NB271_272.out
             have hs32 : w28.cell? ⟨gb271, 3, none⟩ = some (.int .i64 0) := (blk_cell BK271.out 3).trans rfl
             have hfs32 := blk_frozen BK271.out 3
             have hns32_0 := NB264_271.out; have hns32_2 := NB272_271.out; have hms32_0 := NB271_264.out; have hms32_2 := NB271_272.out
             have hs33 : w28.cell? ⟨gb271, 4, none⟩ = some (.int .i64 0) := (blk_cell BK271.out 4).trans rfl
             have hfs33 := blk_frozen BK271.out 4
             have hns33_0 := NB264_271.out; have hns33_2 := NB272_271.out; have hms33_0 := NB271_264.out; have hms33_2 := NB271_272.out
             refine skip_ (w1 := ?_) (by rfl) rfl ?_ ?_
             rotate_left
             · go_simp; rfl
             refine hK.out _ _ ⟨((nF gb271 hw267_0 GW271.out).trans (((nF gb271 hw267_0 GW271.out).trans (((nF gb271 hw267_0 GW271.out).trans (((nF gb271 hw267_0 GW271.out).trans (((nF gb271 hw267_0 GW271.out).trans (hHeld.1)))))))))), ((nF gb271 hw268_0 GW271.out).trans (((nF gb271 hw268_0 GW271.out).trans (((nF gb271 hw268_0 GW271.out).trans (((nF gb271 hw268_0 GW271.out).trans (((nF gb271 hw268_0 GW271.out).trans (hHeld.2.1)))))))))), ((nF gb271 hw268_1 GW271.out).trans (((nF gb271 hw268_1 GW271.out).trans (((nF gb271 hw268_1 GW271.out).trans (((nF gb271 hw268_1 GW271.out).trans (((nF gb271 hw268_1 GW271.out).trans (hHeld.2.2.1)))))))))), ((nF gb271 hw268_2 GW271.out).trans (((nF gb271 hw268_2 GW271.out).trans (((nF gb271 hw268_2 GW271.out).trans (((nF gb271 hw268_2 GW271.out).trans (((nF gb271 hw268_2 GW271.out).trans (hHeld.2.2.2.1)))))))))), ((nF gb271 hw268_3 GW271.out).trans (((nF gb271 hw268_3 GW271.out).trans (((nF gb271 hw268_3 GW271.out).trans (((nF gb271 hw268_3 GW271.out).trans (((nF gb271 hw268_3 GW271.out).trans (hHeld.2.2.2.2.1)))))))))), ((nF gb271 hw268_4 GW271.out).trans (((nF gb271 hw268_4 GW271.out).trans (((nF gb271 hw268_4 GW271.out).trans (((nF gb271 hw268_4 GW271.out).trans (((nF gb271 hw268_4 GW271.out).trans (hHeld.2.2.2.2.2.1)))))))))), ((nF gb271 hw269_0 GW271.out).trans (((nF gb271 hw269_0 GW271.out).trans (((nF gb271 hw269_0 GW271.out).trans (((nF gb271 hw269_0 GW271.out).trans (((nF gb271 hw269_0 GW271.out).trans (hHeld.2.2.2.2.2.2.1)))))))))), ((nF gb271 hw270_0 GW271.out).trans (((nF gb271 hw270_0 GW271.out).trans (((nF gb271 hw270_0 GW271.out).trans (((nF gb271 hw270_0 GW271.out).trans (((nF gb271 hw270_0 GW271.out).trans (hHeld.2.2.2.2.2.2.2.1)))))))))), ((nF gb271 hw270_1 GW271.out).trans (((nF gb271 hw270_1 GW271.out).trans (((nF gb271 hw270_1 GW271.out).trans (((nF gb271 hw270_1 GW271.out).trans (((nF gb271 hw270_1 GW271.out).trans (hHeld.2.2.2.2.2.2.2.2.1)))))))))), ((nF gb271 hw270_2 GW271.out).trans (((nF gb271 hw270_2 GW271.out).trans (((nF gb271 hw270_2 GW271.out).trans (((nF gb271 hw270_2 GW271.out).trans (((nF gb271 hw270_2 GW271.out).trans (hHeld.2.2.2.2.2.2.2.2.2.1)))))))))), ((nF gb271 hw270_3 GW271.out).trans (((nF gb271 hw270_3 GW271.out).trans (((nF gb271 hw270_3 GW271.out).trans (((nF gb271 hw270_3 GW271.out).trans (((nF gb271 hw270_3 GW271.out).trans (hHeld.2.2.2.2.2.2.2.2.2.2.1)))))))))), ((nF gb271 hw270_4 GW271.out).trans (((nF gb271 hw270_4 GW271.out).trans (((nF gb271 hw270_4 GW271.out).trans (((nF gb271 hw270_4 GW271.out).trans (((nF gb271 hw270_4 GW271.out).trans (hHeld.2.2.2.2.2.2.2.2.2.2.2))))))))))⟩ (fun hHeld => ?_)
             clear hK K
             refine one_ (i := 18) (N := none) #[T,T,T,T,T,T,T,T,T,T,T,T,T,T,T,T,T,T,T] rfl rfl (one_of HT_.out (by kernel_rfl)) (by decide) (fun K hK => ?_)
             have hs34 : w28.cell? ⟨gb272, 0, none⟩ = some (.int .i64 0) := (blk_cell BK272.out 0).trans rfl
             have hfs34 := blk_frozen BK272.out 0
             have hns34_0 := NB264_272.out; have hns34_1 := NB271_272.out; have hms34_0 := NB272_264.out; have hms34_1 := NB272_271.out
             have hs35 : w28.cell? ⟨gb272, 1, none⟩ = some (.int .i64 0) := (blk_cell BK272.out 1).trans rfl
             have hfs35 := blk_frozen BK272.out 1
             have hns35_0 := NB264_272.out; have hns35_1 := NB271_272.out; have hms35_0 := NB272_264.out; have hms35_1 := NB272_271.out
             have hs36 : w28.cell? ⟨gb272, 2, none⟩ = some (.int .i64 0) := (blk_cell BK272.out 2).trans rfl
             have hfs36 := blk_frozen BK272.out 2
             have hns36_0 := NB264_272.out; have hns36_1 := NB271_272.out; have hms36_0 := NB272_264.out; have hms36_1 := NB272_271.out
             have hs37 : w28.cell? ⟨gb272, 3, none⟩ = some (.int .i64 0) := (blk_cell BK272.out 3).trans rfl
             have hfs37 := blk_frozen BK272.out 3
             have hns37_0 := NB264_272.out; have hns37_1 := NB271_272.out; have hms37_0 := NB272_264.out; have hms37_1 := NB272_271.out
             have hs38 : w28.cell? ⟨gb272, 4, none⟩ = some (.int .i64 0) := (blk_cell BK272.out 4).trans rfl
             have hfs38 := blk_frozen BK272.out 4
             have hns38_0 := NB264_272.out; have hns38_1 := NB271_272.out; have hms38_0 := NB272_264.out; have hms38_1 := NB272_271.out
             refine skip_ (w1 := ?_) (by rfl) rfl ?_ ?_
             rotate_left
             · go_simp; rfl
             refine hK.out _ _ ⟨((nF gb272 hw267_0 GW272.out).trans (((nF gb272 hw267_0 GW272.out).trans (((nF gb272 hw267_0 GW272.out).trans (((nF gb272 hw267_0 GW272.out).trans (((nF gb272 hw267_0 GW272.out).trans (hHeld.1)))))))))), ((nF gb272 hw268_0 GW272.out).trans (((nF gb272 hw268_0 GW272.out).trans (((nF gb272 hw268_0 GW272.out).trans (((nF gb272 hw268_0 GW272.out).trans (((nF gb272 hw268_0 GW272.out).trans (hHeld.2.1)))))))))), ((nF gb272 hw268_1 GW272.out).trans (((nF gb272 hw268_1 GW272.out).trans (((nF gb272 hw268_1 GW272.out).trans (((nF gb272 hw268_1 GW272.out).trans (((nF gb272 hw268_1 GW272.out).trans (hHeld.2.2.1)))))))))), ((nF gb272 hw268_2 GW272.out).trans (((nF gb272 hw268_2 GW272.out).trans (((nF gb272 hw268_2 GW272.out).trans (((nF gb272 hw268_2 GW272.out).trans (((nF gb272 hw268_2 GW272.out).trans (hHeld.2.2.2.1)))))))))), ((nF gb272 hw268_3 GW272.out).trans (((nF gb272 hw268_3 GW272.out).trans (((nF gb272 hw268_3 GW272.out).trans (((nF gb272 hw268_3 GW272.out).trans (((nF gb272 hw268_3 GW272.out).trans (hHeld.2.2.2.2.1)))))))))), ((nF gb272 hw268_4 GW272.out).trans (((nF gb272 hw268_4 GW272.out).trans (((nF gb272 hw268_4 GW272.out).trans (((nF gb272 hw268_4 GW272.out).trans (((nF gb272 hw268_4 GW272.out).trans (hHeld.2.2.2.2.2.1)))))))))), ((nF gb272 hw269_0 GW272.out).trans (((nF gb272 hw269_0 GW272.out).trans (((nF gb272 hw269_0 GW272.out).trans (((nF gb272 hw269_0 GW272.out).trans (((nF gb272 hw269_0 GW272.out).trans (hHeld.2.2.2.2.2.2.1)))))))))), ((nF gb272 hw270_0 GW272.out).trans (((nF gb272 hw270_0 GW272.out).trans (((nF gb272 hw270_0 GW272.out).trans (((nF gb272 hw270_0 GW272.out).trans (((nF gb272 hw270_0 GW272.out).trans (hHeld.2.2.2.2.2.2.2.1)))))))))), ((nF gb272 hw270_1 GW272.out).trans (((nF gb272 hw270_1 GW272.out).trans (((nF gb272 hw270_1 GW272.out).trans (((nF gb272 hw270_1 GW272.out).trans (((nF gb272 hw270_1 GW272.out).trans (hHeld.2.2.2.2.2.2.2.2.1)))))))))), ((nF gb272 hw270_2 GW272.out).trans (((nF gb272 hw270_2 GW272.out).trans (((nF gb272 hw270_2 GW272.out).trans (((nF gb272 hw270_2 GW272.out).trans (((nF gb272 hw270_2 GW272.out).trans (hHeld.2.2.2.2.2.2.2.2.2.1)))))))))), ((nF gb272 hw270_3 GW272.out).trans (((nF gb272 hw270_3 GW272.out).trans (((nF gb272 hw270_3 GW272.out).trans (((nF gb272 hw270_3 GW272.out).trans (((nF gb272 hw270_3 GW272.out).trans (hHeld.2.2.2.2.2.2.2.2.2.2.1)))))))))), ((nF gb272 hw270_4 GW272.out).trans (((nF gb272 hw270_4 GW272.out).trans (((nF gb272 hw270_4 GW272.out).trans (((nF gb272 hw270_4 GW272.out).trans (((nF gb272 hw270_4 GW272.out).trans (hHeld.2.2.2.2.2.2.2.2.2.2.2))))))))))⟩ (fun hHeld => ?_)
             clear hK K
             refine done_ (done_of HT_.out (by kernel_rfl)) ?_
             have hnb39 := NB271_264.out; have hnc39 := NB264_271.out; have hnb40 := NB271_272.out; have hnc40 := NB272_271.out
             have hcz41_0 : w28.cell? ⟨gb271, 0, none⟩ = some (.int .i64 0) := (blk_cell BK271.out 0).trans rfl
             have hcz41_1 : w28.cell? ⟨gb271, 1, none⟩ = some (.int .i64 0) := (blk_cell BK271.out 1).trans rfl
             have hcz41_2 : w28.cell? ⟨gb271, 2, none⟩ = some (.int .i64 0) := (blk_cell BK271.out 2).trans rfl
             have hcz41_3 : w28.cell? ⟨gb271, 3, none⟩ = some (.int .i64 0) := (blk_cell BK271.out 3).trans rfl
             have hcz41_4 : w28.cell? ⟨gb271, 4, none⟩ = some (.int .i64 0) := (blk_cell BK271.out 4).trans rfl
             have hfz41_0 := blk_frozen BK271.out 0
             have hfz41_1 := blk_frozen BK271.out 1
             have hfz41_2 := blk_frozen BK271.out 2
             have hfz41_3 := blk_frozen BK271.out 3
             have hfz41_4 := blk_frozen BK271.out 4
             have hnb42 := NB272_264.out; have hnc42 := NB264_272.out
             have hcz43_0 : w28.cell? ⟨gb272, 0, none⟩ = some (.int .i64 0) := (blk_cell BK272.out 0).trans rfl
             have hcz43_1 : w28.cell? ⟨gb272, 1, none⟩ = some (.int .i64 0) := (blk_cell BK272.out 1).trans rfl
             have hcz43_2 : w28.cell? ⟨gb272, 2, none⟩ = some (.int .i64 0) := (blk_cell BK272.out 2).trans rfl
             have hcz43_3 : w28.cell? ⟨gb272, 3, none⟩ = some (.int .i64 0) := (blk_cell BK272.out 3).trans rfl
             have hcz43_4 : w28.cell? ⟨gb272, 4, none⟩ = some (.int .i64 0) := (blk_cell BK272.out 4).trans rfl
             have hfz43_0 := blk_frozen BK272.out 0
             have hfz43_1 := blk_frozen BK272.out 1
             have hfz43_2 := blk_frozen BK272.out 2
             have hfz43_3 := blk_frozen BK272.out 3
             have hfz43_4 := blk_frozen BK272.out 4
             try go_wp2
             go_ret
             exact ⟨by first | rfl | (simp [errW_none, errW_some] <;> rfl) | (simp only [← hji15]; first | rfl | (simp [errW_none, errW_some] <;> rfl)) | (simp [*, errW_none, errW_some] <;> first | rfl | (simp [wrap64]; done)), nH3 HB.out GE264.out GE271.out GE272.out⟩
           · rw [if_neg c24] at H
             have c24b0 : decide (((rd_T52 l0 (rd l1 x7_2)).f2) < ((rd_T52 l0 (rd l1 (ji15))).f3)) = false := decide_eq_false c24
             clear c24
             have H' := Aside0.mk H
             clear H
             try go_wp2
             have n0_ := Aside0.mk (blk_drew BK264.out)
             have n1_ := Aside0.mk (below_drew1 HB.out)
             clear BK264; clear HB; have BK264 := n0_; have HB := n1_; clear n0_ n1_
             have p267 : 0 ≤ ((ji15) : Int) := of_decide_eq_true nQ
             have q267 : (ji15) < (l1.length : Int) := of_decide_eq_true nQ
             obtain ⟨ad267, e267, hx267_0⟩ := Kd.at_int HR1.out (ji15) p267 q267
             have hw267_0 := hx267_0; cases e267
             replace hx267_0 := (HB.out.cell (World.block_lt_of_cell? w _ hx267_0)).trans hx267_0
             replace p267 := eq_true p267; replace q267 := eq_true q267
             have p268 : 0 ≤ ((rd l1 (ji15)) : Int) := of_decide_eq_true nQ
             have q268 : (rd l1 (ji15)) < (l0.length : Int) := of_decide_eq_true nQ
             obtain ⟨ad268, e268, hx268_0, hx268_1, hx268_2, hx268_3, hx268_4⟩ := at_T52 HR0.out (rd l1 (ji15)) p268 q268
             have hw268_4 := hx268_4; have hw268_3 := hx268_3; have hw268_2 := hx268_2; have hw268_1 := hx268_1; have hw268_0 := hx268_0; cases e268
             replace hx268_0 := (HB.out.cell (World.block_lt_of_cell? w _ hx268_0)).trans hx268_0
             replace hx268_1 := (HB.out.cell (World.block_lt_of_cell? w _ hx268_1)).trans hx268_1
             replace hx268_2 := (HB.out.cell (World.block_lt_of_cell? w _ hx268_2)).trans hx268_2
             replace hx268_3 := (HB.out.cell (World.block_lt_of_cell? w _ hx268_3)).trans hx268_3
             replace hx268_4 := (HB.out.cell (World.block_lt_of_cell? w _ hx268_4)).trans hx268_4
             replace p268 := eq_true p268; replace q268 := eq_true q268
             have p269 : 0 ≤ (x7_2 : Int) := of_decide_eq_true nQ
             have q269 : x7_2 < (l1.length : Int) := of_decide_eq_true nQ
             obtain ⟨ad269, e269, hx269_0⟩ := Kd.at_int HR1.out x7_2 p269 q269
             have hw269_0 := hx269_0
             obtain rfl : ad267 = ad269 := (by injection e269)
             replace hx269_0 := (HB.out.cell (World.block_lt_of_cell? w _ hx269_0)).trans hx269_0
             replace p269 := eq_true p269; replace q269 := eq_true q269
             have p270 : 0 ≤ ((rd l1 x7_2) : Int) := of_decide_eq_true nQ
             have q270 : (rd l1 x7_2) < (l0.length : Int) := of_decide_eq_true nQ
             obtain ⟨ad270, e270, hx270_0, hx270_1, hx270_2, hx270_3, hx270_4⟩ := at_T52 HR0.out (rd l1 x7_2) p270 q270
             have hw270_4 := hx270_4; have hw270_3 := hx270_3; have hw270_2 := hx270_2; have hw270_1 := hx270_1; have hw270_0 := hx270_0
             obtain rfl : ad268 = ad270 := (by injection e270)
             replace hx270_0 := (HB.out.cell (World.block_lt_of_cell? w _ hx270_0)).trans hx270_0
             replace hx270_1 := (HB.out.cell (World.block_lt_of_cell? w _ hx270_1)).trans hx270_1
             replace hx270_2 := (HB.out.cell (World.block_lt_of_cell? w _ hx270_2)).trans hx270_2
             replace hx270_3 := (HB.out.cell (World.block_lt_of_cell? w _ hx270_3)).trans hx270_3
             replace hx270_4 := (HB.out.cell (World.block_lt_of_cell? w _ hx270_4)).trans hx270_4
             replace p270 := eq_true p270; replace q270 := eq_true q270
             refine start_ (n := 19) (S := fun w' => w'.cell? (ad267.add ((ji15)).toNat) = some (.int .i64 (rd l1 (ji15))) ∧ w'.cell? (ad268.add (((rd l1 (ji15))).toNat * 5)) = some (.int .i64 ((rd_T52 l0 (rd l1 (ji15))).f0)) ∧ w'.cell? ⟨(ad268.add (((rd l1 (ji15))).toNat * 5)).block, (ad268.add (((rd l1 (ji15))).toNat * 5)).off + 1, none⟩ = some (.int .i64 ((rd_T52 l0 (rd l1 (ji15))).f1)) ∧ w'.cell? ⟨(ad268.add (((rd l1 (ji15))).toNat * 5)).block, (ad268.add (((rd l1 (ji15))).toNat * 5)).off + 2, none⟩ = some (.int .i64 ((rd_T52 l0 (rd l1 (ji15))).f2)) ∧ w'.cell? ⟨(ad268.add (((rd l1 (ji15))).toNat * 5)).block, (ad268.add (((rd l1 (ji15))).toNat * 5)).off + 3, none⟩ = some (.int .i64 ((rd_T52 l0 (rd l1 (ji15))).f3)) ∧ w'.cell? ⟨(ad268.add (((rd l1 (ji15))).toNat * 5)).block, (ad268.add (((rd l1 (ji15))).toNat * 5)).off + 4, none⟩ = some (.int .i64 ((rd_T52 l0 (rd l1 (ji15))).f4)) ∧ w'.cell? (ad267.add (x7_2).toNat) = some (.int .i64 (rd l1 x7_2)) ∧ w'.cell? (ad268.add (((rd l1 x7_2)).toNat * 5)) = some (.int .i64 ((rd_T52 l0 (rd l1 x7_2)).f0)) ∧ w'.cell? ⟨(ad268.add (((rd l1 x7_2)).toNat * 5)).block, (ad268.add (((rd l1 x7_2)).toNat * 5)).off + 1, none⟩ = some (.int .i64 ((rd_T52 l0 (rd l1 x7_2)).f1)) ∧ w'.cell? ⟨(ad268.add (((rd l1 x7_2)).toNat * 5)).block, (ad268.add (((rd l1 x7_2)).toNat * 5)).off + 2, none⟩ = some (.int .i64 ((rd_T52 l0 (rd l1 x7_2)).f2)) ∧ w'.cell? ⟨(ad268.add (((rd l1 x7_2)).toNat * 5)).block, (ad268.add (((rd l1 x7_2)).toNat * 5)).off + 3, none⟩ = some (.int .i64 ((rd_T52 l0 (rd l1 x7_2)).f3)) ∧ w'.cell? ⟨(ad268.add (((rd l1 x7_2)).toNat * 5)).block, (ad268.add (((rd l1 x7_2)).toNat * 5)).off + 4, none⟩ = some (.int .i64 ((rd_T52 l0 (rd l1 x7_2)).f4))) (ds := []) #[F,F,F,F,F,F,F,F,F,F,F,F,F,F,F,F,F,F,F] (by kernel_rfl) rfl rfl ⟨(nC HB.out hw267_0 :), (nC HB.out hw268_0 :), (nC HB.out hw268_1 :), (nC HB.out hw268_2 :), (nC HB.out hw268_3 :), (nC HB.out hw268_4 :), (nC HB.out hw269_0 :), (nC HB.out hw270_0 :), (nC HB.out hw270_1 :), (nC HB.out hw270_2 :), (nC HB.out hw270_3 :), (nC HB.out hw270_4 :)⟩ (fun hHeld => ?_); refine with_tabW spec_DutyCode.tab6 spec_DutyCode.bits6 (fun HT_ HW_ => ?_)
             generalize wr.drew = w44 at BK264 HB hx267_0 hx268_0 hx268_1 hx268_2 hx268_3 hx268_4 hx269_0 hx270_0 hx270_1 hx270_2 hx270_3 hx270_4 hHeld ⊢
             refine pU 0 (some 25) #[T,F,F,F,F,F,F,F,F,F,F,F,F,F,F,F,F,F,F] rfl rfl HT_.out ?_
             refine pU 1 (some 26) #[T,T,F,F,F,F,F,F,F,F,F,F,F,F,F,F,F,F,F] rfl rfl HT_.out ?_
             refine pU 2 (some 27) #[T,T,T,F,F,F,F,F,F,F,F,F,F,F,F,F,F,F,F] rfl rfl HT_.out ?_
             refine pU 3 (some 28) #[T,T,T,T,F,F,F,F,F,F,F,F,F,F,F,F,F,F,F] rfl rfl HT_.out ?_
             refine pU 4 (some 29) #[T,T,T,T,T,F,F,F,F,F,F,F,F,F,F,F,F,F,F] rfl rfl HT_.out ?_
             refine pU 8 (some 33) #[T,T,T,T,T,F,F,F,T,F,F,F,F,F,F,F,F,F,F] rfl rfl HT_.out ?_
             refine pU 9 (some 34) #[T,T,T,T,T,F,F,F,T,T,F,F,F,F,F,F,F,F,F] rfl rfl HT_.out ?_
             refine pU 10 (some 35) #[T,T,T,T,T,F,F,F,T,T,T,F,F,F,F,F,F,F,F] rfl rfl HT_.out ?_
             refine pU 11 (some 36) #[T,T,T,T,T,F,F,F,T,T,T,T,F,F,F,F,F,F,F] rfl rfl HT_.out ?_
             refine tU12 5 (some 30) #[T,T,T,T,T,T,F,F,T,T,T,T,F,F,F,F,F,F,F] rfl rfl HT_.out HW_.out hHeld ?_
             refine pU 6 (some 31) #[T,T,T,T,T,T,T,F,T,T,T,T,F,F,F,F,F,F,F] rfl rfl HT_.out ?_
             refine tU12 7 (some 32) #[T,T,T,T,T,T,T,T,T,T,T,T,F,F,F,F,F,F,F] rfl rfl HT_.out HW_.out hHeld ?_
             refine tU12 12 (some 37) #[T,T,T,T,T,T,T,T,T,T,T,T,T,F,F,F,F,F,F] rfl rfl HT_.out HW_.out hHeld ?_
             refine pU 13 (some 38) #[T,T,T,T,T,T,T,T,T,T,T,T,T,T,F,F,F,F,F] rfl rfl HT_.out ?_
             refine tU12 14 (some 39) #[T,T,T,T,T,T,T,T,T,T,T,T,T,T,T,F,F,F,F] rfl rfl HT_.out HW_.out hHeld ?_
             refine join_ (σ := Nat × Nat) 2 #[T,T,T,T,T,T,T,T,T,T,T,T,T,T,T,T,T,F,F] (fun s_ => [(8, .pointer (some ⟨s_.1, 0, none⟩)), (9, .pointer (some ⟨s_.2, 0, none⟩))]) (fun s_ w' => (w'.cell? (ad267.add ((ji15)).toNat) = some (.int .i64 (rd l1 (ji15))) ∧ w'.cell? (ad268.add (((rd l1 (ji15))).toNat * 5)) = some (.int .i64 ((rd_T52 l0 (rd l1 (ji15))).f0)) ∧ w'.cell? ⟨(ad268.add (((rd l1 (ji15))).toNat * 5)).block, (ad268.add (((rd l1 (ji15))).toNat * 5)).off + 1, none⟩ = some (.int .i64 ((rd_T52 l0 (rd l1 (ji15))).f1)) ∧ w'.cell? ⟨(ad268.add (((rd l1 (ji15))).toNat * 5)).block, (ad268.add (((rd l1 (ji15))).toNat * 5)).off + 2, none⟩ = some (.int .i64 ((rd_T52 l0 (rd l1 (ji15))).f2)) ∧ w'.cell? ⟨(ad268.add (((rd l1 (ji15))).toNat * 5)).block, (ad268.add (((rd l1 (ji15))).toNat * 5)).off + 3, none⟩ = some (.int .i64 ((rd_T52 l0 (rd l1 (ji15))).f3)) ∧ w'.cell? ⟨(ad268.add (((rd l1 (ji15))).toNat * 5)).block, (ad268.add (((rd l1 (ji15))).toNat * 5)).off + 4, none⟩ = some (.int .i64 ((rd_T52 l0 (rd l1 (ji15))).f4)) ∧ w'.cell? (ad267.add (x7_2).toNat) = some (.int .i64 (rd l1 x7_2)) ∧ w'.cell? (ad268.add (((rd l1 x7_2)).toNat * 5)) = some (.int .i64 ((rd_T52 l0 (rd l1 x7_2)).f0)) ∧ w'.cell? ⟨(ad268.add (((rd l1 x7_2)).toNat * 5)).block, (ad268.add (((rd l1 x7_2)).toNat * 5)).off + 1, none⟩ = some (.int .i64 ((rd_T52 l0 (rd l1 x7_2)).f1)) ∧ w'.cell? ⟨(ad268.add (((rd l1 x7_2)).toNat * 5)).block, (ad268.add (((rd l1 x7_2)).toNat * 5)).off + 2, none⟩ = some (.int .i64 ((rd_T52 l0 (rd l1 x7_2)).f2)) ∧ w'.cell? ⟨(ad268.add (((rd l1 x7_2)).toNat * 5)).block, (ad268.add (((rd l1 x7_2)).toNat * 5)).off + 3, none⟩ = some (.int .i64 ((rd_T52 l0 (rd l1 x7_2)).f3)) ∧ w'.cell? ⟨(ad268.add (((rd l1 x7_2)).toNat * 5)).block, (ad268.add (((rd l1 x7_2)).toNat * 5)).off + 4, none⟩ = some (.int .i64 ((rd_T52 l0 (rd l1 x7_2)).f4))) ∧ (w'.heap[gb264]? = some (.cells #[.int .i64 a2_0, .int .i64 a2_1, .int .i64 a2_2, .int .i64 a2_3] 25 (0, 0))) ∧ (w'.heap[s_.1]? = some (.cells #[.int .i64 0, .int .i64 0, .int .i64 0, .int .i64 0, .int .i64 0] 52 (0, 0))) ∧ (w'.heap[s_.2]? = some (.cells #[.int .i64 0, .int .i64 0, .int .i64 0, .int .i64 0, .int .i64 0] 52 (0, 0))) ∧ (w.heap.size ≤ s_.1) ∧ (w.heap.size ≤ s_.1) ∧ (gb264 ≠ s_.1) ∧ (s_.1 ≠ gb264) ∧ (s_.2 ≠ s_.1) ∧ (s_.1 ≠ s_.2) ∧ (w.heap.size ≤ s_.2) ∧ (w.heap.size ≤ s_.2) ∧ (gb264 ≠ s_.2) ∧ (s_.2 ≠ gb264) ∧ (Below w.heap.size w w')) ?_ ?_
             rotate_left
             · intro hCont
               refine two_ (i := 15) (j := 16) (Ni := some 8) (Nj := some 9) #[T,T,T,T,T,T,T,T,T,T,T,T,T,T,T,T,F,F,F] #[T,T,T,T,T,T,T,T,T,T,T,T,T,T,T,F,T,F,F] rfl rfl rfl rfl (two_of HT_.out (by kernel_rfl)) (by decide) (by decide) (fun K hK => ?_) (fun K hK => ?_)
               · skip
                 refine box_step ?hg (N := 8) ?hd (cs := #[.int .i64 0, .int .i64 0, .int .i64 0, .int .i64 0, .int .i64 0]) (t := 52) ?hr ?_; (case hd => rfl); (case hg => rfl); (case hr => first | (go_simp; done) | (go_simp; rfl))
                 intro gb271 hg w45 hbox hb
                 have n0_ := Aside0.mk (blk_below (g := gb264) (o := .cells #[.int .i64 a2_0, .int .i64 a2_1, .int .i64 a2_2, .int .i64 a2_3] 25 (0, 0)) (nB BK264.out) hb)
                 have n1_ := Aside0.mk (below_step (nH1 HB.out GE264.out) hb)
                 have n2_ := Aside0.mk (hbox)
                 have n3_ := Aside0.mk ((by rw [hg]; exact (below_size (nH1 HB.out GE264.out)) : w.heap.size ≤ gb271))
                 have n4_ := Aside0.mk ((by rw [hg]; exact (below_size (nH1 HB.out GE264.out)) : w.heap.size ≤ gb271))
                 have n5_ := Aside0.mk ((by rw [hg]; exact Nat.ne_of_lt (blk_lt (g := gb264) (o := .cells #[.int .i64 a2_0, .int .i64 a2_1, .int .i64 a2_2, .int .i64 a2_3] 25 (0, 0)) (nB BK264.out)) : gb264 ≠ gb271))
                 have n6_ := Aside0.mk ((by rw [hg]; exact Nat.ne_of_gt (blk_lt (g := gb264) (o := .cells #[.int .i64 a2_0, .int .i64 a2_1, .int .i64 a2_2, .int .i64 a2_3] 25 (0, 0)) (nB BK264.out)) : gb271 ≠ gb264))
                 clear BK264; clear HB; have BK264 := n0_; have HB := n1_; have BK271 := n2_; have GW271 := n3_; have GE271 := n4_; have NB264_271 := n5_; have NB271_264 := n6_; clear n0_ n1_ n2_ n3_ n4_ n5_ n6_; clear hb hbox hg
                 refine hK.out _ _ ⟨(nC HB.out hw267_0 :), (nC HB.out hw268_0 :), (nC HB.out hw268_1 :), (nC HB.out hw268_2 :), (nC HB.out hw268_3 :), (nC HB.out hw268_4 :), (nC HB.out hw269_0 :), (nC HB.out hw270_0 :), (nC HB.out hw270_1 :), (nC HB.out hw270_2 :), (nC HB.out hw270_3 :), (nC HB.out hw270_4 :)⟩ (fun hHeld => ?_)
                 clear hK K
                 refine norm_ (a' := ?_) ?_ ?_
                 rotate_left
                 · show Act.put _ (some 8) _ = _
                   simp only [Act.put, List.setIfInBounds_toArray, List.set_cons_zero, List.set_cons_succ, i64_w, i32_w]
                   rfl
                 refine one_ (i := 16) (N := some 9) #[T,T,T,T,T,T,T,T,T,T,T,T,T,T,T,T,T,F,F] rfl rfl (one_of HT_.out (by kernel_rfl)) (by decide) (fun K hK => ?_)
                 refine box_step ?hg (N := 9) ?hd (cs := #[.int .i64 0, .int .i64 0, .int .i64 0, .int .i64 0, .int .i64 0]) (t := 52) ?hr ?_; (case hd => rfl); (case hg => rfl); (case hr => first | (go_simp; done) | (go_simp; rfl))
                 intro gb272 hg w46 hbox hb
                 have n0_ := Aside0.mk (blk_below (g := gb264) (o := .cells #[.int .i64 a2_0, .int .i64 a2_1, .int .i64 a2_2, .int .i64 a2_3] 25 (0, 0)) (nB BK264.out) hb)
                 have n1_ := Aside0.mk (blk_below (g := gb271) (o := .cells #[.int .i64 0, .int .i64 0, .int .i64 0, .int .i64 0, .int .i64 0] 52 (0, 0)) (nB BK271.out) hb)
                 have n2_ := Aside0.mk (below_step (nH2 HB.out GE264.out GE271.out) hb)
                 have n3_ := Aside0.mk (hbox)
                 have n4_ := Aside0.mk ((by rw [hg]; exact (below_size (nH2 HB.out GE264.out GE271.out)) : w.heap.size ≤ gb272))
                 have n5_ := Aside0.mk ((by rw [hg]; exact (below_size (nH2 HB.out GE264.out GE271.out)) : w.heap.size ≤ gb272))
                 have n6_ := Aside0.mk ((by rw [hg]; exact Nat.ne_of_lt (blk_lt (g := gb264) (o := .cells #[.int .i64 a2_0, .int .i64 a2_1, .int .i64 a2_2, .int .i64 a2_3] 25 (0, 0)) (nB BK264.out)) : gb264 ≠ gb272))
                 have n7_ := Aside0.mk ((by rw [hg]; exact Nat.ne_of_gt (blk_lt (g := gb264) (o := .cells #[.int .i64 a2_0, .int .i64 a2_1, .int .i64 a2_2, .int .i64 a2_3] 25 (0, 0)) (nB BK264.out)) : gb272 ≠ gb264))
                 have n8_ := Aside0.mk ((by rw [hg]; exact Nat.ne_of_lt (blk_lt (g := gb271) (o := .cells #[.int .i64 0, .int .i64 0, .int .i64 0, .int .i64 0, .int .i64 0] 52 (0, 0)) (nB BK271.out)) : gb271 ≠ gb272))
                 have n9_ := Aside0.mk ((by rw [hg]; exact Nat.ne_of_gt (blk_lt (g := gb271) (o := .cells #[.int .i64 0, .int .i64 0, .int .i64 0, .int .i64 0, .int .i64 0] 52 (0, 0)) (nB BK271.out)) : gb272 ≠ gb271))
                 clear BK264; clear BK271; clear HB; have BK264 := n0_; have BK271 := n1_; have HB := n2_; have BK272 := n3_; have GW272 := n4_; have GE272 := n5_; have NB264_272 := n6_; have NB272_264 := n7_; have NB271_272 := n8_; have NB272_271 := n9_; clear n0_ n1_ n2_ n3_ n4_ n5_ n6_ n7_ n8_ n9_; clear hb hbox hg
                 refine hK.out _ _ ⟨(nC HB.out hw267_0 :), (nC HB.out hw268_0 :), (nC HB.out hw268_1 :), (nC HB.out hw268_2 :), (nC HB.out hw268_3 :), (nC HB.out hw268_4 :), (nC HB.out hw269_0 :), (nC HB.out hw270_0 :), (nC HB.out hw270_1 :), (nC HB.out hw270_2 :), (nC HB.out hw270_3 :), (nC HB.out hw270_4 :)⟩ (fun hHeld => ?_)
                 clear hK K
                 refine norm_ (a' := ?_) ?_ ?_
                 rotate_left
                 · show Act.put _ (some 9) _ = _
                   simp only [Act.put, List.setIfInBounds_toArray, List.set_cons_zero, List.set_cons_succ, i64_w, i32_w]
                   rfl
                 exact norm_ (by simp only [putAll, Act.put, List.setIfInBounds_toArray, List.set_cons_zero, List.set_cons_succ]) (hCont (gb271, gb272) _ ⟨hHeld, (nB BK264.out), (nB BK271.out), (nB BK272.out), GW271.out, GE271.out, NB264_271.out, NB271_264.out, NB272_271.out, NB271_272.out, GW272.out, GE272.out, NB264_272.out, NB272_264.out, (nH3 HB.out GE264.out GE271.out GE272.out)⟩)
               · skip
                 refine box_step ?hg (N := 9) ?hd (cs := #[.int .i64 0, .int .i64 0, .int .i64 0, .int .i64 0, .int .i64 0]) (t := 52) ?hr ?_; (case hd => rfl); (case hg => rfl); (case hr => first | (go_simp; done) | (go_simp; rfl))
                 intro gb272 hg w45 hbox hb
                 have n0_ := Aside0.mk (blk_below (g := gb264) (o := .cells #[.int .i64 a2_0, .int .i64 a2_1, .int .i64 a2_2, .int .i64 a2_3] 25 (0, 0)) (nB BK264.out) hb)
                 have n1_ := Aside0.mk (below_step (nH1 HB.out GE264.out) hb)
                 have n2_ := Aside0.mk (hbox)
                 have n3_ := Aside0.mk ((by rw [hg]; exact (below_size (nH1 HB.out GE264.out)) : w.heap.size ≤ gb272))
                 have n4_ := Aside0.mk ((by rw [hg]; exact (below_size (nH1 HB.out GE264.out)) : w.heap.size ≤ gb272))
                 have n5_ := Aside0.mk ((by rw [hg]; exact Nat.ne_of_lt (blk_lt (g := gb264) (o := .cells #[.int .i64 a2_0, .int .i64 a2_1, .int .i64 a2_2, .int .i64 a2_3] 25 (0, 0)) (nB BK264.out)) : gb264 ≠ gb272))
                 have n6_ := Aside0.mk ((by rw [hg]; exact Nat.ne_of_gt (blk_lt (g := gb264) (o := .cells #[.int .i64 a2_0, .int .i64 a2_1, .int .i64 a2_2, .int .i64 a2_3] 25 (0, 0)) (nB BK264.out)) : gb272 ≠ gb264))
                 clear BK264; clear HB; have BK264 := n0_; have HB := n1_; have BK272 := n2_; have GW272 := n3_; have GE272 := n4_; have NB264_272 := n5_; have NB272_264 := n6_; clear n0_ n1_ n2_ n3_ n4_ n5_ n6_; clear hb hbox hg
                 refine hK.out _ _ ⟨(nC HB.out hw267_0 :), (nC HB.out hw268_0 :), (nC HB.out hw268_1 :), (nC HB.out hw268_2 :), (nC HB.out hw268_3 :), (nC HB.out hw268_4 :), (nC HB.out hw269_0 :), (nC HB.out hw270_0 :), (nC HB.out hw270_1 :), (nC HB.out hw270_2 :), (nC HB.out hw270_3 :), (nC HB.out hw270_4 :)⟩ (fun hHeld => ?_)
                 clear hK K
                 refine norm_ (a' := ?_) ?_ ?_
                 rotate_left
                 · show Act.put _ (some 9) _ = _
                   simp only [Act.put, List.setIfInBounds_toArray, List.set_cons_zero, List.set_cons_succ, i64_w, i32_w]
                   rfl
                 refine one_ (i := 15) (N := some 8) #[T,T,T,T,T,T,T,T,T,T,T,T,T,T,T,T,T,F,F] rfl rfl (one_of HT_.out (by kernel_rfl)) (by decide) (fun K hK => ?_)
                 refine box_step ?hg (N := 8) ?hd (cs := #[.int .i64 0, .int .i64 0, .int .i64 0, .int .i64 0, .int .i64 0]) (t := 52) ?hr ?_; (case hd => rfl); (case hg => rfl); (case hr => first | (go_simp; done) | (go_simp; rfl))
                 intro gb271 hg w46 hbox hb
                 have n0_ := Aside0.mk (blk_below (g := gb264) (o := .cells #[.int .i64 a2_0, .int .i64 a2_1, .int .i64 a2_2, .int .i64 a2_3] 25 (0, 0)) (nB BK264.out) hb)
                 have n1_ := Aside0.mk (blk_below (g := gb272) (o := .cells #[.int .i64 0, .int .i64 0, .int .i64 0, .int .i64 0, .int .i64 0] 52 (0, 0)) (nB BK272.out) hb)
                 have n2_ := Aside0.mk (below_step (nH2 HB.out GE264.out GE272.out) hb)
                 have n3_ := Aside0.mk (hbox)
                 have n4_ := Aside0.mk ((by rw [hg]; exact (below_size (nH2 HB.out GE264.out GE272.out)) : w.heap.size ≤ gb271))
                 have n5_ := Aside0.mk ((by rw [hg]; exact (below_size (nH2 HB.out GE264.out GE272.out)) : w.heap.size ≤ gb271))
                 have n6_ := Aside0.mk ((by rw [hg]; exact Nat.ne_of_lt (blk_lt (g := gb264) (o := .cells #[.int .i64 a2_0, .int .i64 a2_1, .int .i64 a2_2, .int .i64 a2_3] 25 (0, 0)) (nB BK264.out)) : gb264 ≠ gb271))
                 have n7_ := Aside0.mk ((by rw [hg]; exact Nat.ne_of_gt (blk_lt (g := gb264) (o := .cells #[.int .i64 a2_0, .int .i64 a2_1, .int .i64 a2_2, .int .i64 a2_3] 25 (0, 0)) (nB BK264.out)) : gb271 ≠ gb264))
                 have n8_ := Aside0.mk ((by rw [hg]; exact Nat.ne_of_lt (blk_lt (g := gb272) (o := .cells #[.int .i64 0, .int .i64 0, .int .i64 0, .int .i64 0, .int .i64 0] 52 (0, 0)) (nB BK272.out)) : gb272 ≠ gb271))
                 have n9_ := Aside0.mk ((by rw [hg]; exact Nat.ne_of_gt (blk_lt (g := gb272) (o := .cells #[.int .i64 0, .int .i64 0, .int .i64 0, .int .i64 0, .int .i64 0] 52 (0, 0)) (nB BK272.out)) : gb271 ≠ gb272))
                 clear BK264; clear BK272; clear HB; have BK264 := n0_; have BK272 := n1_; have HB := n2_; have BK271 := n3_; have GW271 := n4_; have GE271 := n5_; have NB264_271 := n6_; have NB271_264 := n7_; have NB272_271 := n8_; have NB271_272 := n9_; clear n0_ n1_ n2_ n3_ n4_ n5_ n6_ n7_ n8_ n9_; clear hb hbox hg
                 refine hK.out _ _ ⟨(nC HB.out hw267_0 :), (nC HB.out hw268_0 :), (nC HB.out hw268_1 :), (nC HB.out hw268_2 :), (nC HB.out hw268_3 :), (nC HB.out hw268_4 :), (nC HB.out hw269_0 :), (nC HB.out hw270_0 :), (nC HB.out hw270_1 :), (nC HB.out hw270_2 :), (nC HB.out hw270_3 :), (nC HB.out hw270_4 :)⟩ (fun hHeld => ?_)
                 clear hK K
                 refine norm_ (a' := ?_) ?_ ?_
                 rotate_left
                 · show Act.put _ (some 8) _ = _
                   simp only [Act.put, List.setIfInBounds_toArray, List.set_cons_zero, List.set_cons_succ, i64_w, i32_w]
                   rfl
                 exact norm_ (by simp only [putAll, Act.put, List.setIfInBounds_toArray, List.set_cons_zero, List.set_cons_succ]) (hCont (gb271, gb272) _ ⟨hHeld, (nB BK264.out), (nB BK271.out), (nB BK272.out), GW271.out, GE271.out, NB264_271.out, NB271_264.out, NB272_271.out, NB271_272.out, GW272.out, GE272.out, NB264_272.out, NB272_264.out, (nH3 HB.out GE264.out GE272.out GE271.out)⟩)
             rintro ⟨gb271, gb272⟩ w47 ⟨hS_, h0_, h1_, h2_, h3_, h4_, h5_, h6_, h7_, h8_, h9_, h10_, h11_, h12_, h13_⟩
             have n0_ : Aside0 (w47.heap[gb264]? = some (.cells #[.int .i64 a2_0, .int .i64 a2_1, .int .i64 a2_2, .int .i64 a2_3] 25 (0, 0))) := ⟨h0_⟩
             have n1_ : Aside0 (w47.heap[gb271]? = some (.cells #[.int .i64 0, .int .i64 0, .int .i64 0, .int .i64 0, .int .i64 0] 52 (0, 0))) := ⟨h1_⟩
             have n2_ : Aside0 (w47.heap[gb272]? = some (.cells #[.int .i64 0, .int .i64 0, .int .i64 0, .int .i64 0, .int .i64 0] 52 (0, 0))) := ⟨h2_⟩
             have n3_ : Aside0 (w.heap.size ≤ gb271) := ⟨h3_⟩
             have n4_ : Aside0 (w.heap.size ≤ gb271) := ⟨h4_⟩
             have n5_ : Aside0 (gb264 ≠ gb271) := ⟨h5_⟩
             have n6_ : Aside0 (gb271 ≠ gb264) := ⟨h6_⟩
             have n7_ : Aside0 (gb272 ≠ gb271) := ⟨h7_⟩
             have n8_ : Aside0 (gb271 ≠ gb272) := ⟨h8_⟩
             have n9_ : Aside0 (w.heap.size ≤ gb272) := ⟨h9_⟩
             have n10_ : Aside0 (w.heap.size ≤ gb272) := ⟨h10_⟩
             have n11_ : Aside0 (gb264 ≠ gb272) := ⟨h11_⟩
             have n12_ : Aside0 (gb272 ≠ gb264) := ⟨h12_⟩
             have n13_ : Aside0 (Below w.heap.size w w47) := ⟨h13_⟩
             clear BK264; clear HB; clear h0_ h1_ h2_ h3_ h4_ h5_ h6_ h7_ h8_ h9_ h10_ h11_ h12_ h13_; have BK264 := n0_; have BK271 := n1_; have BK272 := n2_; have GW271 := n3_; have GE271 := n4_; have NB264_271 := n5_; have NB271_264 := n6_; have NB272_271 := n7_; have NB271_272 := n8_; have GW272 := n9_; have GE272 := n10_; have NB264_272 := n11_; have NB272_264 := n12_; have HB := n13_; clear n0_ n1_ n2_ n3_ n4_ n5_ n6_ n7_ n8_ n9_ n10_ n11_ n12_ n13_
             have hHeld : w47.cell? (ad267.add ((ji15)).toNat) = some (.int .i64 (rd l1 (ji15))) ∧ w47.cell? (ad268.add (((rd l1 (ji15))).toNat * 5)) = some (.int .i64 ((rd_T52 l0 (rd l1 (ji15))).f0)) ∧ w47.cell? ⟨(ad268.add (((rd l1 (ji15))).toNat * 5)).block, (ad268.add (((rd l1 (ji15))).toNat * 5)).off + 1, none⟩ = some (.int .i64 ((rd_T52 l0 (rd l1 (ji15))).f1)) ∧ w47.cell? ⟨(ad268.add (((rd l1 (ji15))).toNat * 5)).block, (ad268.add (((rd l1 (ji15))).toNat * 5)).off + 2, none⟩ = some (.int .i64 ((rd_T52 l0 (rd l1 (ji15))).f2)) ∧ w47.cell? ⟨(ad268.add (((rd l1 (ji15))).toNat * 5)).block, (ad268.add (((rd l1 (ji15))).toNat * 5)).off + 3, none⟩ = some (.int .i64 ((rd_T52 l0 (rd l1 (ji15))).f3)) ∧ w47.cell? ⟨(ad268.add (((rd l1 (ji15))).toNat * 5)).block, (ad268.add (((rd l1 (ji15))).toNat * 5)).off + 4, none⟩ = some (.int .i64 ((rd_T52 l0 (rd l1 (ji15))).f4)) ∧ w47.cell? (ad267.add (x7_2).toNat) = some (.int .i64 (rd l1 x7_2)) ∧ w47.cell? (ad268.add (((rd l1 x7_2)).toNat * 5)) = some (.int .i64 ((rd_T52 l0 (rd l1 x7_2)).f0)) ∧ w47.cell? ⟨(ad268.add (((rd l1 x7_2)).toNat * 5)).block, (ad268.add (((rd l1 x7_2)).toNat * 5)).off + 1, none⟩ = some (.int .i64 ((rd_T52 l0 (rd l1 x7_2)).f1)) ∧ w47.cell? ⟨(ad268.add (((rd l1 x7_2)).toNat * 5)).block, (ad268.add (((rd l1 x7_2)).toNat * 5)).off + 2, none⟩ = some (.int .i64 ((rd_T52 l0 (rd l1 x7_2)).f2)) ∧ w47.cell? ⟨(ad268.add (((rd l1 x7_2)).toNat * 5)).block, (ad268.add (((rd l1 x7_2)).toNat * 5)).off + 3, none⟩ = some (.int .i64 ((rd_T52 l0 (rd l1 x7_2)).f3)) ∧ w47.cell? ⟨(ad268.add (((rd l1 x7_2)).toNat * 5)).block, (ad268.add (((rd l1 x7_2)).toNat * 5)).off + 4, none⟩ = some (.int .i64 ((rd_T52 l0 (rd l1 x7_2)).f4)) := hS_
             refine norm_ (a' := ?_) ?_ ?_
             rotate_left
             · simp only [putAll, Act.put, List.setIfInBounds_toArray, List.set_cons_zero, List.set_cons_succ]
               rfl
             refine one_ (i := 17) (N := none) #[T,T,T,T,T,T,T,T,T,T,T,T,T,T,T,T,T,T,F] rfl rfl (one_of HT_.out (by kernel_rfl)) (by decide) (fun K hK => ?_)
             have hs48 : w47.cell? ⟨gb271, 0, none⟩ = some (.int .i64 0) := (blk_cell BK271.out 0).trans rfl
             have hfs48 := blk_frozen BK271.out 0
             have hns48_0 := NB264_271.out; have hns48_2 := NB272_271.out; have hms48_0 := NB271_264.out; have hms48_2 := NB271_272.out
             have hs49 : w47.cell? ⟨gb271, 1, none⟩ = some (.int .i64 0) := (blk_cell BK271.out 1).trans rfl
             have hfs49 := blk_frozen BK271.out 1
             have hns49_0 := NB264_271.out; have hns49_2 := NB272_271.out; have hms49_0 := NB271_264.out; have hms49_2 := NB271_272.out
             have hs50 : w47.cell? ⟨gb271, 2, none⟩ = some (.int .i64 0) := (blk_cell BK271.out 2).trans rfl
             have hfs50 := blk_frozen BK271.out 2
             have hns50_0 := NB264_271.out; have hns50_2 := NB272_271.out; have hms50_0 := NB271_264.out; have hms50_2 := NB271_272.out
             have hs51 : w47.cell? ⟨gb271, 3, none⟩ = some (.int .i64 0) := (blk_cell BK271.out 3).trans rfl
             have hfs51 := blk_frozen BK271.out 3
             have hns51_0 := NB264_271.out; have hns51_2 := NB272_271.out; have hms51_0 := NB271_264.out; have hms51_2 := NB271_272.out
             have hs52 : w47.cell? ⟨gb271, 4, none⟩ = some (.int .i64 0) := (blk_cell BK271.out 4).trans rfl
             have hfs52 := blk_frozen BK271.out 4
             have hns52_0 := NB264_271.out; have hns52_2 := NB272_271.out; have hms52_0 := NB271_264.out; have hms52_2 := NB271_272.out
             refine skip_ (w1 := ?_) (by rfl) rfl ?_ ?_
             rotate_left
             · go_simp; rfl
             refine hK.out _ _ ⟨((nF gb271 hw267_0 GW271.out).trans (((nF gb271 hw267_0 GW271.out).trans (((nF gb271 hw267_0 GW271.out).trans (((nF gb271 hw267_0 GW271.out).trans (((nF gb271 hw267_0 GW271.out).trans (hHeld.1)))))))))), ((nF gb271 hw268_0 GW271.out).trans (((nF gb271 hw268_0 GW271.out).trans (((nF gb271 hw268_0 GW271.out).trans (((nF gb271 hw268_0 GW271.out).trans (((nF gb271 hw268_0 GW271.out).trans (hHeld.2.1)))))))))), ((nF gb271 hw268_1 GW271.out).trans (((nF gb271 hw268_1 GW271.out).trans (((nF gb271 hw268_1 GW271.out).trans (((nF gb271 hw268_1 GW271.out).trans (((nF gb271 hw268_1 GW271.out).trans (hHeld.2.2.1)))))))))), ((nF gb271 hw268_2 GW271.out).trans (((nF gb271 hw268_2 GW271.out).trans (((nF gb271 hw268_2 GW271.out).trans (((nF gb271 hw268_2 GW271.out).trans (((nF gb271 hw268_2 GW271.out).trans (hHeld.2.2.2.1)))))))))), ((nF gb271 hw268_3 GW271.out).trans (((nF gb271 hw268_3 GW271.out).trans (((nF gb271 hw268_3 GW271.out).trans (((nF gb271 hw268_3 GW271.out).trans (((nF gb271 hw268_3 GW271.out).trans (hHeld.2.2.2.2.1)))))))))), ((nF gb271 hw268_4 GW271.out).trans (((nF gb271 hw268_4 GW271.out).trans (((nF gb271 hw268_4 GW271.out).trans (((nF gb271 hw268_4 GW271.out).trans (((nF gb271 hw268_4 GW271.out).trans (hHeld.2.2.2.2.2.1)))))))))), ((nF gb271 hw269_0 GW271.out).trans (((nF gb271 hw269_0 GW271.out).trans (((nF gb271 hw269_0 GW271.out).trans (((nF gb271 hw269_0 GW271.out).trans (((nF gb271 hw269_0 GW271.out).trans (hHeld.2.2.2.2.2.2.1)))))))))), ((nF gb271 hw270_0 GW271.out).trans (((nF gb271 hw270_0 GW271.out).trans (((nF gb271 hw270_0 GW271.out).trans (((nF gb271 hw270_0 GW271.out).trans (((nF gb271 hw270_0 GW271.out).trans (hHeld.2.2.2.2.2.2.2.1)))))))))), ((nF gb271 hw270_1 GW271.out).trans (((nF gb271 hw270_1 GW271.out).trans (((nF gb271 hw270_1 GW271.out).trans (((nF gb271 hw270_1 GW271.out).trans (((nF gb271 hw270_1 GW271.out).trans (hHeld.2.2.2.2.2.2.2.2.1)))))))))), ((nF gb271 hw270_2 GW271.out).trans (((nF gb271 hw270_2 GW271.out).trans (((nF gb271 hw270_2 GW271.out).trans (((nF gb271 hw270_2 GW271.out).trans (((nF gb271 hw270_2 GW271.out).trans (hHeld.2.2.2.2.2.2.2.2.2.1)))))))))), ((nF gb271 hw270_3 GW271.out).trans (((nF gb271 hw270_3 GW271.out).trans (((nF gb271 hw270_3 GW271.out).trans (((nF gb271 hw270_3 GW271.out).trans (((nF gb271 hw270_3 GW271.out).trans (hHeld.2.2.2.2.2.2.2.2.2.2.1)))))))))), ((nF gb271 hw270_4 GW271.out).trans (((nF gb271 hw270_4 GW271.out).trans (((nF gb271 hw270_4 GW271.out).trans (((nF gb271 hw270_4 GW271.out).trans (((nF gb271 hw270_4 GW271.out).trans (hHeld.2.2.2.2.2.2.2.2.2.2.2))))))))))⟩ (fun hHeld => ?_)
             clear hK K
             refine one_ (i := 18) (N := none) #[T,T,T,T,T,T,T,T,T,T,T,T,T,T,T,T,T,T,T] rfl rfl (one_of HT_.out (by kernel_rfl)) (by decide) (fun K hK => ?_)
             have hs53 : w47.cell? ⟨gb272, 0, none⟩ = some (.int .i64 0) := (blk_cell BK272.out 0).trans rfl
             have hfs53 := blk_frozen BK272.out 0
             have hns53_0 := NB264_272.out; have hns53_1 := NB271_272.out; have hms53_0 := NB272_264.out; have hms53_1 := NB272_271.out
             have hs54 : w47.cell? ⟨gb272, 1, none⟩ = some (.int .i64 0) := (blk_cell BK272.out 1).trans rfl
             have hfs54 := blk_frozen BK272.out 1
             have hns54_0 := NB264_272.out; have hns54_1 := NB271_272.out; have hms54_0 := NB272_264.out; have hms54_1 := NB272_271.out
             have hs55 : w47.cell? ⟨gb272, 2, none⟩ = some (.int .i64 0) := (blk_cell BK272.out 2).trans rfl
             have hfs55 := blk_frozen BK272.out 2
             have hns55_0 := NB264_272.out; have hns55_1 := NB271_272.out; have hms55_0 := NB272_264.out; have hms55_1 := NB272_271.out
             have hs56 : w47.cell? ⟨gb272, 3, none⟩ = some (.int .i64 0) := (blk_cell BK272.out 3).trans rfl
             have hfs56 := blk_frozen BK272.out 3
             have hns56_0 := NB264_272.out; have hns56_1 := NB271_272.out; have hms56_0 := NB272_264.out; have hms56_1 := NB272_271.out
             have hs57 : w47.cell? ⟨gb272, 4, none⟩ = some (.int .i64 0) := (blk_cell BK272.out 4).trans rfl
             have hfs57 := blk_frozen BK272.out 4
             have hns57_0 := NB264_272.out; have hns57_1 := NB271_272.out; have hms57_0 := NB272_264.out; have hms57_1 := NB272_271.out
             refine skip_ (w1 := ?_) (by rfl) rfl ?_ ?_
             rotate_left
             · go_simp; rfl
             refine hK.out _ _ ⟨((nF gb272 hw267_0 GW272.out).trans (((nF gb272 hw267_0 GW272.out).trans (((nF gb272 hw267_0 GW272.out).trans (((nF gb272 hw267_0 GW272.out).trans (((nF gb272 hw267_0 GW272.out).trans (hHeld.1)))))))))), ((nF gb272 hw268_0 GW272.out).trans (((nF gb272 hw268_0 GW272.out).trans (((nF gb272 hw268_0 GW272.out).trans (((nF gb272 hw268_0 GW272.out).trans (((nF gb272 hw268_0 GW272.out).trans (hHeld.2.1)))))))))), ((nF gb272 hw268_1 GW272.out).trans (((nF gb272 hw268_1 GW272.out).trans (((nF gb272 hw268_1 GW272.out).trans (((nF gb272 hw268_1 GW272.out).trans (((nF gb272 hw268_1 GW272.out).trans (hHeld.2.2.1)))))))))), ((nF gb272 hw268_2 GW272.out).trans (((nF gb272 hw268_2 GW272.out).trans (((nF gb272 hw268_2 GW272.out).trans (((nF gb272 hw268_2 GW272.out).trans (((nF gb272 hw268_2 GW272.out).trans (hHeld.2.2.2.1)))))))))), ((nF gb272 hw268_3 GW272.out).trans (((nF gb272 hw268_3 GW272.out).trans (((nF gb272 hw268_3 GW272.out).trans (((nF gb272 hw268_3 GW272.out).trans (((nF gb272 hw268_3 GW272.out).trans (hHeld.2.2.2.2.1)))))))))), ((nF gb272 hw268_4 GW272.out).trans (((nF gb272 hw268_4 GW272.out).trans (((nF gb272 hw268_4 GW272.out).trans (((nF gb272 hw268_4 GW272.out).trans (((nF gb272 hw268_4 GW272.out).trans (hHeld.2.2.2.2.2.1)))))))))), ((nF gb272 hw269_0 GW272.out).trans (((nF gb272 hw269_0 GW272.out).trans (((nF gb272 hw269_0 GW272.out).trans (((nF gb272 hw269_0 GW272.out).trans (((nF gb272 hw269_0 GW272.out).trans (hHeld.2.2.2.2.2.2.1)))))))))), ((nF gb272 hw270_0 GW272.out).trans (((nF gb272 hw270_0 GW272.out).trans (((nF gb272 hw270_0 GW272.out).trans (((nF gb272 hw270_0 GW272.out).trans (((nF gb272 hw270_0 GW272.out).trans (hHeld.2.2.2.2.2.2.2.1)))))))))), ((nF gb272 hw270_1 GW272.out).trans (((nF gb272 hw270_1 GW272.out).trans (((nF gb272 hw270_1 GW272.out).trans (((nF gb272 hw270_1 GW272.out).trans (((nF gb272 hw270_1 GW272.out).trans (hHeld.2.2.2.2.2.2.2.2.1)))))))))), ((nF gb272 hw270_2 GW272.out).trans (((nF gb272 hw270_2 GW272.out).trans (((nF gb272 hw270_2 GW272.out).trans (((nF gb272 hw270_2 GW272.out).trans (((nF gb272 hw270_2 GW272.out).trans (hHeld.2.2.2.2.2.2.2.2.2.1)))))))))), ((nF gb272 hw270_3 GW272.out).trans (((nF gb272 hw270_3 GW272.out).trans (((nF gb272 hw270_3 GW272.out).trans (((nF gb272 hw270_3 GW272.out).trans (((nF gb272 hw270_3 GW272.out).trans (hHeld.2.2.2.2.2.2.2.2.2.2.1)))))))))), ((nF gb272 hw270_4 GW272.out).trans (((nF gb272 hw270_4 GW272.out).trans (((nF gb272 hw270_4 GW272.out).trans (((nF gb272 hw270_4 GW272.out).trans (((nF gb272 hw270_4 GW272.out).trans (hHeld.2.2.2.2.2.2.2.2.2.2.2))))))))))⟩ (fun hHeld => ?_)
             clear hK K
             refine done_ (done_of HT_.out (by kernel_rfl)) ?_
             have hnb58 := NB271_264.out; have hnc58 := NB264_271.out; have hnb59 := NB271_272.out; have hnc59 := NB272_271.out
             have hcz60_0 : w47.cell? ⟨gb271, 0, none⟩ = some (.int .i64 0) := (blk_cell BK271.out 0).trans rfl
             have hcz60_1 : w47.cell? ⟨gb271, 1, none⟩ = some (.int .i64 0) := (blk_cell BK271.out 1).trans rfl
             have hcz60_2 : w47.cell? ⟨gb271, 2, none⟩ = some (.int .i64 0) := (blk_cell BK271.out 2).trans rfl
             have hcz60_3 : w47.cell? ⟨gb271, 3, none⟩ = some (.int .i64 0) := (blk_cell BK271.out 3).trans rfl
             have hcz60_4 : w47.cell? ⟨gb271, 4, none⟩ = some (.int .i64 0) := (blk_cell BK271.out 4).trans rfl
             have hfz60_0 := blk_frozen BK271.out 0
             have hfz60_1 := blk_frozen BK271.out 1
             have hfz60_2 := blk_frozen BK271.out 2
             have hfz60_3 := blk_frozen BK271.out 3
             have hfz60_4 := blk_frozen BK271.out 4
             have hnb61 := NB272_264.out; have hnc61 := NB264_272.out
             have hcz62_0 : w47.cell? ⟨gb272, 0, none⟩ = some (.int .i64 0) := (blk_cell BK272.out 0).trans rfl
             have hcz62_1 : w47.cell? ⟨gb272, 1, none⟩ = some (.int .i64 0) := (blk_cell BK272.out 1).trans rfl
             have hcz62_2 : w47.cell? ⟨gb272, 2, none⟩ = some (.int .i64 0) := (blk_cell BK272.out 2).trans rfl
             have hcz62_3 : w47.cell? ⟨gb272, 3, none⟩ = some (.int .i64 0) := (blk_cell BK272.out 3).trans rfl
             have hcz62_4 : w47.cell? ⟨gb272, 4, none⟩ = some (.int .i64 0) := (blk_cell BK272.out 4).trans rfl
             have hfz62_0 := blk_frozen BK272.out 0
             have hfz62_1 := blk_frozen BK272.out 1
             have hfz62_2 := blk_frozen BK272.out 2
             have hfz62_3 := blk_frozen BK272.out 3
             have hfz62_4 := blk_frozen BK272.out 4
             try go_wp2
             go_roundg k2
             case measure => have := HJ3.out; have := HK2.out; omega
             case rel => exact ⟨(wrap64 (x7_2 + 1)), nS, H', ⟨by have := HJ3.out; have := HK2.out; omega⟩, ⟨by (with_reducible repeat (first | refine blk_drewN ?_ _ | refine blk_drew ?_ | refine blk_alloc ?_ _)); refine blk_far ?_ NB264_272.out _; (with_reducible repeat (first | refine blk_drewN ?_ _ | refine blk_drew ?_ | refine blk_alloc ?_ _)); refine blk_far ?_ NB264_272.out _; (with_reducible repeat (first | refine blk_drewN ?_ _ | refine blk_drew ?_ | refine blk_alloc ?_ _)); refine blk_far ?_ NB264_272.out _; (with_reducible repeat (first | refine blk_drewN ?_ _ | refine blk_drew ?_ | refine blk_alloc ?_ _)); refine blk_far ?_ NB264_272.out _; (with_reducible repeat (first | refine blk_drewN ?_ _ | refine blk_drew ?_ | refine blk_alloc ?_ _)); refine blk_far ?_ NB264_272.out _; (with_reducible repeat (first | refine blk_drewN ?_ _ | refine blk_drew ?_ | refine blk_alloc ?_ _)); refine blk_far ?_ NB264_271.out _; (with_reducible repeat (first | refine blk_drewN ?_ _ | refine blk_drew ?_ | refine blk_alloc ?_ _)); refine blk_far ?_ NB264_271.out _; (with_reducible repeat (first | refine blk_drewN ?_ _ | refine blk_drew ?_ | refine blk_alloc ?_ _)); refine blk_far ?_ NB264_271.out _; (with_reducible repeat (first | refine blk_drewN ?_ _ | refine blk_drew ?_ | refine blk_alloc ?_ _)); refine blk_far ?_ NB264_271.out _; (with_reducible repeat (first | refine blk_drewN ?_ _ | refine blk_drew ?_ | refine blk_alloc ?_ _)); refine blk_far ?_ NB264_271.out _; (with_reducible repeat (first | refine blk_drewN ?_ _ | refine blk_drew ?_ | refine blk_alloc ?_ _)); exact BK264.out⟩, ⟨nH3 HB.out GE264.out GE271.out GE272.out⟩⟩
         · rw [if_neg c23] at H
           have c23b0 : (((rd_T52 l0 (rd l1 (ji15))).f1) == ((rd_T52 l0 (rd l1 x7_2)).f0)) = false := beq_eq_false_iff_ne.mpr c23
           have c23b1 : (((rd_T52 l0 (rd l1 (ji15))).f1) != ((rd_T52 l0 (rd l1 x7_2)).f0)) = true := bne_iff_ne.mpr c23
           obtain rfl := Option.some.inj H
           try go_wp2
           have n0_ := Aside0.mk (blk_drew BK264.out)
           have n1_ := Aside0.mk (below_drew1 HB.out)
           clear BK264; clear HB; have BK264 := n0_; have HB := n1_; clear n0_ n1_
           have p267 : 0 ≤ ((ji15) : Int) := of_decide_eq_true nQ
           have q267 : (ji15) < (l1.length : Int) := of_decide_eq_true nQ
           obtain ⟨ad267, e267, hx267_0⟩ := Kd.at_int HR1.out (ji15) p267 q267
           have hw267_0 := hx267_0; cases e267
           replace hx267_0 := (HB.out.cell (World.block_lt_of_cell? w _ hx267_0)).trans hx267_0
           replace p267 := eq_true p267; replace q267 := eq_true q267
           have p268 : 0 ≤ ((rd l1 (ji15)) : Int) := of_decide_eq_true nQ
           have q268 : (rd l1 (ji15)) < (l0.length : Int) := of_decide_eq_true nQ
           obtain ⟨ad268, e268, hx268_0, hx268_1, hx268_2, hx268_3, hx268_4⟩ := at_T52 HR0.out (rd l1 (ji15)) p268 q268
           have hw268_4 := hx268_4; have hw268_3 := hx268_3; have hw268_2 := hx268_2; have hw268_1 := hx268_1; have hw268_0 := hx268_0; cases e268
           replace hx268_0 := (HB.out.cell (World.block_lt_of_cell? w _ hx268_0)).trans hx268_0
           replace hx268_1 := (HB.out.cell (World.block_lt_of_cell? w _ hx268_1)).trans hx268_1
           replace hx268_2 := (HB.out.cell (World.block_lt_of_cell? w _ hx268_2)).trans hx268_2
           replace hx268_3 := (HB.out.cell (World.block_lt_of_cell? w _ hx268_3)).trans hx268_3
           replace hx268_4 := (HB.out.cell (World.block_lt_of_cell? w _ hx268_4)).trans hx268_4
           replace p268 := eq_true p268; replace q268 := eq_true q268
           have p269 : 0 ≤ (x7_2 : Int) := of_decide_eq_true nQ
           have q269 : x7_2 < (l1.length : Int) := of_decide_eq_true nQ
           obtain ⟨ad269, e269, hx269_0⟩ := Kd.at_int HR1.out x7_2 p269 q269
           have hw269_0 := hx269_0
           obtain rfl : ad267 = ad269 := (by injection e269)
           replace hx269_0 := (HB.out.cell (World.block_lt_of_cell? w _ hx269_0)).trans hx269_0
           replace p269 := eq_true p269; replace q269 := eq_true q269
           have p270 : 0 ≤ ((rd l1 x7_2) : Int) := of_decide_eq_true nQ
           have q270 : (rd l1 x7_2) < (l0.length : Int) := of_decide_eq_true nQ
           obtain ⟨ad270, e270, hx270_0, hx270_1, hx270_2, hx270_3, hx270_4⟩ := at_T52 HR0.out (rd l1 x7_2) p270 q270
           have hw270_4 := hx270_4; have hw270_3 := hx270_3; have hw270_2 := hx270_2; have hw270_1 := hx270_1; have hw270_0 := hx270_0
           obtain rfl : ad268 = ad270 := (by injection e270)
           replace hx270_0 := (HB.out.cell (World.block_lt_of_cell? w _ hx270_0)).trans hx270_0
           replace hx270_1 := (HB.out.cell (World.block_lt_of_cell? w _ hx270_1)).trans hx270_1
           replace hx270_2 := (HB.out.cell (World.block_lt_of_cell? w _ hx270_2)).trans hx270_2
           replace hx270_3 := (HB.out.cell (World.block_lt_of_cell? w _ hx270_3)).trans hx270_3
           replace hx270_4 := (HB.out.cell (World.block_lt_of_cell? w _ hx270_4)).trans hx270_4
           replace p270 := eq_true p270; replace q270 := eq_true q270
           refine start_ (n := 19) (S := fun w' => w'.cell? (ad267.add ((ji15)).toNat) = some (.int .i64 (rd l1 (ji15))) ∧ w'.cell? (ad268.add (((rd l1 (ji15))).toNat * 5)) = some (.int .i64 ((rd_T52 l0 (rd l1 (ji15))).f0)) ∧ w'.cell? ⟨(ad268.add (((rd l1 (ji15))).toNat * 5)).block, (ad268.add (((rd l1 (ji15))).toNat * 5)).off + 1, none⟩ = some (.int .i64 ((rd_T52 l0 (rd l1 (ji15))).f1)) ∧ w'.cell? ⟨(ad268.add (((rd l1 (ji15))).toNat * 5)).block, (ad268.add (((rd l1 (ji15))).toNat * 5)).off + 2, none⟩ = some (.int .i64 ((rd_T52 l0 (rd l1 (ji15))).f2)) ∧ w'.cell? ⟨(ad268.add (((rd l1 (ji15))).toNat * 5)).block, (ad268.add (((rd l1 (ji15))).toNat * 5)).off + 3, none⟩ = some (.int .i64 ((rd_T52 l0 (rd l1 (ji15))).f3)) ∧ w'.cell? ⟨(ad268.add (((rd l1 (ji15))).toNat * 5)).block, (ad268.add (((rd l1 (ji15))).toNat * 5)).off + 4, none⟩ = some (.int .i64 ((rd_T52 l0 (rd l1 (ji15))).f4)) ∧ w'.cell? (ad267.add (x7_2).toNat) = some (.int .i64 (rd l1 x7_2)) ∧ w'.cell? (ad268.add (((rd l1 x7_2)).toNat * 5)) = some (.int .i64 ((rd_T52 l0 (rd l1 x7_2)).f0)) ∧ w'.cell? ⟨(ad268.add (((rd l1 x7_2)).toNat * 5)).block, (ad268.add (((rd l1 x7_2)).toNat * 5)).off + 1, none⟩ = some (.int .i64 ((rd_T52 l0 (rd l1 x7_2)).f1)) ∧ w'.cell? ⟨(ad268.add (((rd l1 x7_2)).toNat * 5)).block, (ad268.add (((rd l1 x7_2)).toNat * 5)).off + 2, none⟩ = some (.int .i64 ((rd_T52 l0 (rd l1 x7_2)).f2)) ∧ w'.cell? ⟨(ad268.add (((rd l1 x7_2)).toNat * 5)).block, (ad268.add (((rd l1 x7_2)).toNat * 5)).off + 3, none⟩ = some (.int .i64 ((rd_T52 l0 (rd l1 x7_2)).f3)) ∧ w'.cell? ⟨(ad268.add (((rd l1 x7_2)).toNat * 5)).block, (ad268.add (((rd l1 x7_2)).toNat * 5)).off + 4, none⟩ = some (.int .i64 ((rd_T52 l0 (rd l1 x7_2)).f4))) (ds := []) #[F,F,F,F,F,F,F,F,F,F,F,F,F,F,F,F,F,F,F] (by kernel_rfl) rfl rfl ⟨(nC HB.out hw267_0 :), (nC HB.out hw268_0 :), (nC HB.out hw268_1 :), (nC HB.out hw268_2 :), (nC HB.out hw268_3 :), (nC HB.out hw268_4 :), (nC HB.out hw269_0 :), (nC HB.out hw270_0 :), (nC HB.out hw270_1 :), (nC HB.out hw270_2 :), (nC HB.out hw270_3 :), (nC HB.out hw270_4 :)⟩ (fun hHeld => ?_); refine with_tabW spec_DutyCode.tab6 spec_DutyCode.bits6 (fun HT_ HW_ => ?_)
           generalize wr.drew = w63 at BK264 HB hx267_0 hx268_0 hx268_1 hx268_2 hx268_3 hx268_4 hx269_0 hx270_0 hx270_1 hx270_2 hx270_3 hx270_4 hHeld ⊢
           refine pU 0 (some 25) #[T,F,F,F,F,F,F,F,F,F,F,F,F,F,F,F,F,F,F] rfl rfl HT_.out ?_
           refine pU 1 (some 26) #[T,T,F,F,F,F,F,F,F,F,F,F,F,F,F,F,F,F,F] rfl rfl HT_.out ?_
           refine pU 2 (some 27) #[T,T,T,F,F,F,F,F,F,F,F,F,F,F,F,F,F,F,F] rfl rfl HT_.out ?_
           refine pU 3 (some 28) #[T,T,T,T,F,F,F,F,F,F,F,F,F,F,F,F,F,F,F] rfl rfl HT_.out ?_
           refine pU 4 (some 29) #[T,T,T,T,T,F,F,F,F,F,F,F,F,F,F,F,F,F,F] rfl rfl HT_.out ?_
           refine pU 8 (some 33) #[T,T,T,T,T,F,F,F,T,F,F,F,F,F,F,F,F,F,F] rfl rfl HT_.out ?_
           refine pU 9 (some 34) #[T,T,T,T,T,F,F,F,T,T,F,F,F,F,F,F,F,F,F] rfl rfl HT_.out ?_
           refine pU 10 (some 35) #[T,T,T,T,T,F,F,F,T,T,T,F,F,F,F,F,F,F,F] rfl rfl HT_.out ?_
           refine pU 11 (some 36) #[T,T,T,T,T,F,F,F,T,T,T,T,F,F,F,F,F,F,F] rfl rfl HT_.out ?_
           refine tU12 5 (some 30) #[T,T,T,T,T,T,F,F,T,T,T,T,F,F,F,F,F,F,F] rfl rfl HT_.out HW_.out hHeld ?_
           refine pU 6 (some 31) #[T,T,T,T,T,T,T,F,T,T,T,T,F,F,F,F,F,F,F] rfl rfl HT_.out ?_
           refine tU12 7 (some 32) #[T,T,T,T,T,T,T,T,T,T,T,T,F,F,F,F,F,F,F] rfl rfl HT_.out HW_.out hHeld ?_
           refine tU12 12 (some 37) #[T,T,T,T,T,T,T,T,T,T,T,T,T,F,F,F,F,F,F] rfl rfl HT_.out HW_.out hHeld ?_
           refine pU 13 (some 38) #[T,T,T,T,T,T,T,T,T,T,T,T,T,T,F,F,F,F,F] rfl rfl HT_.out ?_
           refine tU12 14 (some 39) #[T,T,T,T,T,T,T,T,T,T,T,T,T,T,T,F,F,F,F] rfl rfl HT_.out HW_.out hHeld ?_
           refine join_ (σ := Nat × Nat) 2 #[T,T,T,T,T,T,T,T,T,T,T,T,T,T,T,T,T,F,F] (fun s_ => [(8, .pointer (some ⟨s_.1, 0, none⟩)), (9, .pointer (some ⟨s_.2, 0, none⟩))]) (fun s_ w' => (w'.cell? (ad267.add ((ji15)).toNat) = some (.int .i64 (rd l1 (ji15))) ∧ w'.cell? (ad268.add (((rd l1 (ji15))).toNat * 5)) = some (.int .i64 ((rd_T52 l0 (rd l1 (ji15))).f0)) ∧ w'.cell? ⟨(ad268.add (((rd l1 (ji15))).toNat * 5)).block, (ad268.add (((rd l1 (ji15))).toNat * 5)).off + 1, none⟩ = some (.int .i64 ((rd_T52 l0 (rd l1 (ji15))).f1)) ∧ w'.cell? ⟨(ad268.add (((rd l1 (ji15))).toNat * 5)).block, (ad268.add (((rd l1 (ji15))).toNat * 5)).off + 2, none⟩ = some (.int .i64 ((rd_T52 l0 (rd l1 (ji15))).f2)) ∧ w'.cell? ⟨(ad268.add (((rd l1 (ji15))).toNat * 5)).block, (ad268.add (((rd l1 (ji15))).toNat * 5)).off + 3, none⟩ = some (.int .i64 ((rd_T52 l0 (rd l1 (ji15))).f3)) ∧ w'.cell? ⟨(ad268.add (((rd l1 (ji15))).toNat * 5)).block, (ad268.add (((rd l1 (ji15))).toNat * 5)).off + 4, none⟩ = some (.int .i64 ((rd_T52 l0 (rd l1 (ji15))).f4)) ∧ w'.cell? (ad267.add (x7_2).toNat) = some (.int .i64 (rd l1 x7_2)) ∧ w'.cell? (ad268.add (((rd l1 x7_2)).toNat * 5)) = some (.int .i64 ((rd_T52 l0 (rd l1 x7_2)).f0)) ∧ w'.cell? ⟨(ad268.add (((rd l1 x7_2)).toNat * 5)).block, (ad268.add (((rd l1 x7_2)).toNat * 5)).off + 1, none⟩ = some (.int .i64 ((rd_T52 l0 (rd l1 x7_2)).f1)) ∧ w'.cell? ⟨(ad268.add (((rd l1 x7_2)).toNat * 5)).block, (ad268.add (((rd l1 x7_2)).toNat * 5)).off + 2, none⟩ = some (.int .i64 ((rd_T52 l0 (rd l1 x7_2)).f2)) ∧ w'.cell? ⟨(ad268.add (((rd l1 x7_2)).toNat * 5)).block, (ad268.add (((rd l1 x7_2)).toNat * 5)).off + 3, none⟩ = some (.int .i64 ((rd_T52 l0 (rd l1 x7_2)).f3)) ∧ w'.cell? ⟨(ad268.add (((rd l1 x7_2)).toNat * 5)).block, (ad268.add (((rd l1 x7_2)).toNat * 5)).off + 4, none⟩ = some (.int .i64 ((rd_T52 l0 (rd l1 x7_2)).f4))) ∧ (w'.heap[gb264]? = some (.cells #[.int .i64 a2_0, .int .i64 a2_1, .int .i64 a2_2, .int .i64 a2_3] 25 (0, 0))) ∧ (w'.heap[s_.1]? = some (.cells #[.int .i64 0, .int .i64 0, .int .i64 0, .int .i64 0, .int .i64 0] 52 (0, 0))) ∧ (w'.heap[s_.2]? = some (.cells #[.int .i64 0, .int .i64 0, .int .i64 0, .int .i64 0, .int .i64 0] 52 (0, 0))) ∧ (w.heap.size ≤ s_.1) ∧ (w.heap.size ≤ s_.1) ∧ (gb264 ≠ s_.1) ∧ (s_.1 ≠ gb264) ∧ (s_.2 ≠ s_.1) ∧ (s_.1 ≠ s_.2) ∧ (w.heap.size ≤ s_.2) ∧ (w.heap.size ≤ s_.2) ∧ (gb264 ≠ s_.2) ∧ (s_.2 ≠ gb264) ∧ (Below w.heap.size w w')) ?_ ?_
           rotate_left
           · intro hCont
             refine two_ (i := 15) (j := 16) (Ni := some 8) (Nj := some 9) #[T,T,T,T,T,T,T,T,T,T,T,T,T,T,T,T,F,F,F] #[T,T,T,T,T,T,T,T,T,T,T,T,T,T,T,F,T,F,F] rfl rfl rfl rfl (two_of HT_.out (by kernel_rfl)) (by decide) (by decide) (fun K hK => ?_) (fun K hK => ?_)
             · skip
               refine box_step ?hg (N := 8) ?hd (cs := #[.int .i64 0, .int .i64 0, .int .i64 0, .int .i64 0, .int .i64 0]) (t := 52) ?hr ?_; (case hd => rfl); (case hg => rfl); (case hr => first | (go_simp; done) | (go_simp; rfl))
               intro gb271 hg w64 hbox hb
               have n0_ := Aside0.mk (blk_below (g := gb264) (o := .cells #[.int .i64 a2_0, .int .i64 a2_1, .int .i64 a2_2, .int .i64 a2_3] 25 (0, 0)) (nB BK264.out) hb)
               have n1_ := Aside0.mk (below_step (nH1 HB.out GE264.out) hb)
               have n2_ := Aside0.mk (hbox)
               have n3_ := Aside0.mk ((by rw [hg]; exact (below_size (nH1 HB.out GE264.out)) : w.heap.size ≤ gb271))
               have n4_ := Aside0.mk ((by rw [hg]; exact (below_size (nH1 HB.out GE264.out)) : w.heap.size ≤ gb271))
               have n5_ := Aside0.mk ((by rw [hg]; exact Nat.ne_of_lt (blk_lt (g := gb264) (o := .cells #[.int .i64 a2_0, .int .i64 a2_1, .int .i64 a2_2, .int .i64 a2_3] 25 (0, 0)) (nB BK264.out)) : gb264 ≠ gb271))
               have n6_ := Aside0.mk ((by rw [hg]; exact Nat.ne_of_gt (blk_lt (g := gb264) (o := .cells #[.int .i64 a2_0, .int .i64 a2_1, .int .i64 a2_2, .int .i64 a2_3] 25 (0, 0)) (nB BK264.out)) : gb271 ≠ gb264))
               clear BK264; clear HB; have BK264 := n0_; have HB := n1_; have BK271 := n2_; have GW271 := n3_; have GE271 := n4_; have NB264_271 := n5_; have NB271_264 := n6_; clear n0_ n1_ n2_ n3_ n4_ n5_ n6_; clear hb hbox hg
               refine hK.out _ _ ⟨(nC HB.out hw267_0 :), (nC HB.out hw268_0 :), (nC HB.out hw268_1 :), (nC HB.out hw268_2 :), (nC HB.out hw268_3 :), (nC HB.out hw268_4 :), (nC HB.out hw269_0 :), (nC HB.out hw270_0 :), (nC HB.out hw270_1 :), (nC HB.out hw270_2 :), (nC HB.out hw270_3 :), (nC HB.out hw270_4 :)⟩ (fun hHeld => ?_)
               clear hK K
               refine norm_ (a' := ?_) ?_ ?_
               rotate_left
               · show Act.put _ (some 8) _ = _
                 simp only [Act.put, List.setIfInBounds_toArray, List.set_cons_zero, List.set_cons_succ, i64_w, i32_w]
                 rfl
               refine one_ (i := 16) (N := some 9) #[T,T,T,T,T,T,T,T,T,T,T,T,T,T,T,T,T,F,F] rfl rfl (one_of HT_.out (by kernel_rfl)) (by decide) (fun K hK => ?_)
               refine box_step ?hg (N := 9) ?hd (cs := #[.int .i64 0, .int .i64 0, .int .i64 0, .int .i64 0, .int .i64 0]) (t := 52) ?hr ?_; (case hd => rfl); (case hg => rfl); (case hr => first | (go_simp; done) | (go_simp; rfl))
               intro gb272 hg w65 hbox hb
               have n0_ := Aside0.mk (blk_below (g := gb264) (o := .cells #[.int .i64 a2_0, .int .i64 a2_1, .int .i64 a2_2, .int .i64 a2_3] 25 (0, 0)) (nB BK264.out) hb)
               have n1_ := Aside0.mk (blk_below (g := gb271) (o := .cells #[.int .i64 0, .int .i64 0, .int .i64 0, .int .i64 0, .int .i64 0] 52 (0, 0)) (nB BK271.out) hb)
               have n2_ := Aside0.mk (below_step (nH2 HB.out GE264.out GE271.out) hb)
               have n3_ := Aside0.mk (hbox)
               have n4_ := Aside0.mk ((by rw [hg]; exact (below_size (nH2 HB.out GE264.out GE271.out)) : w.heap.size ≤ gb272))
               have n5_ := Aside0.mk ((by rw [hg]; exact (below_size (nH2 HB.out GE264.out GE271.out)) : w.heap.size ≤ gb272))
               have n6_ := Aside0.mk ((by rw [hg]; exact Nat.ne_of_lt (blk_lt (g := gb264) (o := .cells #[.int .i64 a2_0, .int .i64 a2_1, .int .i64 a2_2, .int .i64 a2_3] 25 (0, 0)) (nB BK264.out)) : gb264 ≠ gb272))
               have n7_ := Aside0.mk ((by rw [hg]; exact Nat.ne_of_gt (blk_lt (g := gb264) (o := .cells #[.int .i64 a2_0, .int .i64 a2_1, .int .i64 a2_2, .int .i64 a2_3] 25 (0, 0)) (nB BK264.out)) : gb272 ≠ gb264))
               have n8_ := Aside0.mk ((by rw [hg]; exact Nat.ne_of_lt (blk_lt (g := gb271) (o := .cells #[.int .i64 0, .int .i64 0, .int .i64 0, .int .i64 0, .int .i64 0] 52 (0, 0)) (nB BK271.out)) : gb271 ≠ gb272))
               have n9_ := Aside0.mk ((by rw [hg]; exact Nat.ne_of_gt (blk_lt (g := gb271) (o := .cells #[.int .i64 0, .int .i64 0, .int .i64 0, .int .i64 0, .int .i64 0] 52 (0, 0)) (nB BK271.out)) : gb272 ≠ gb271))
               clear BK264; clear BK271; clear HB; have BK264 := n0_; have BK271 := n1_; have HB := n2_; have BK272 := n3_; have GW272 := n4_; have GE272 := n5_; have NB264_272 := n6_; have NB272_264 := n7_; have NB271_272 := n8_; have NB272_271 := n9_; clear n0_ n1_ n2_ n3_ n4_ n5_ n6_ n7_ n8_ n9_; clear hb hbox hg
               refine hK.out _ _ ⟨(nC HB.out hw267_0 :), (nC HB.out hw268_0 :), (nC HB.out hw268_1 :), (nC HB.out hw268_2 :), (nC HB.out hw268_3 :), (nC HB.out hw268_4 :), (nC HB.out hw269_0 :), (nC HB.out hw270_0 :), (nC HB.out hw270_1 :), (nC HB.out hw270_2 :), (nC HB.out hw270_3 :), (nC HB.out hw270_4 :)⟩ (fun hHeld => ?_)
               clear hK K
               refine norm_ (a' := ?_) ?_ ?_
               rotate_left
               · show Act.put _ (some 9) _ = _
                 simp only [Act.put, List.setIfInBounds_toArray, List.set_cons_zero, List.set_cons_succ, i64_w, i32_w]
                 rfl
               exact norm_ (by simp only [putAll, Act.put, List.setIfInBounds_toArray, List.set_cons_zero, List.set_cons_succ]) (hCont (gb271, gb272) _ ⟨hHeld, (nB BK264.out), (nB BK271.out), (nB BK272.out), GW271.out, GE271.out, NB264_271.out, NB271_264.out, NB272_271.out, NB271_272.out, GW272.out, GE272.out, NB264_272.out, NB272_264.out, (nH3 HB.out GE264.out GE271.out GE272.out)⟩)
             · skip
               refine box_step ?hg (N := 9) ?hd (cs := #[.int .i64 0, .int .i64 0, .int .i64 0, .int .i64 0, .int .i64 0]) (t := 52) ?hr ?_; (case hd => rfl); (case hg => rfl); (case hr => first | (go_simp; done) | (go_simp; rfl))
               intro gb272 hg w64 hbox hb
               have n0_ := Aside0.mk (blk_below (g := gb264) (o := .cells #[.int .i64 a2_0, .int .i64 a2_1, .int .i64 a2_2, .int .i64 a2_3] 25 (0, 0)) (nB BK264.out) hb)
               have n1_ := Aside0.mk (below_step (nH1 HB.out GE264.out) hb)
               have n2_ := Aside0.mk (hbox)
               have n3_ := Aside0.mk ((by rw [hg]; exact (below_size (nH1 HB.out GE264.out)) : w.heap.size ≤ gb272))
               have n4_ := Aside0.mk ((by rw [hg]; exact (below_size (nH1 HB.out GE264.out)) : w.heap.size ≤ gb272))
               have n5_ := Aside0.mk ((by rw [hg]; exact Nat.ne_of_lt (blk_lt (g := gb264) (o := .cells #[.int .i64 a2_0, .int .i64 a2_1, .int .i64 a2_2, .int .i64 a2_3] 25 (0, 0)) (nB BK264.out)) : gb264 ≠ gb272))
               have n6_ := Aside0.mk ((by rw [hg]; exact Nat.ne_of_gt (blk_lt (g := gb264) (o := .cells #[.int .i64 a2_0, .int .i64 a2_1, .int .i64 a2_2, .int .i64 a2_3] 25 (0, 0)) (nB BK264.out)) : gb272 ≠ gb264))
               clear BK264; clear HB; have BK264 := n0_; have HB := n1_; have BK272 := n2_; have GW272 := n3_; have GE272 := n4_; have NB264_272 := n5_; have NB272_264 := n6_; clear n0_ n1_ n2_ n3_ n4_ n5_ n6_; clear hb hbox hg
               refine hK.out _ _ ⟨(nC HB.out hw267_0 :), (nC HB.out hw268_0 :), (nC HB.out hw268_1 :), (nC HB.out hw268_2 :), (nC HB.out hw268_3 :), (nC HB.out hw268_4 :), (nC HB.out hw269_0 :), (nC HB.out hw270_0 :), (nC HB.out hw270_1 :), (nC HB.out hw270_2 :), (nC HB.out hw270_3 :), (nC HB.out hw270_4 :)⟩ (fun hHeld => ?_)
               clear hK K
               refine norm_ (a' := ?_) ?_ ?_
               rotate_left
               · show Act.put _ (some 9) _ = _
                 simp only [Act.put, List.setIfInBounds_toArray, List.set_cons_zero, List.set_cons_succ, i64_w, i32_w]
                 rfl
               refine one_ (i := 15) (N := some 8) #[T,T,T,T,T,T,T,T,T,T,T,T,T,T,T,T,T,F,F] rfl rfl (one_of HT_.out (by kernel_rfl)) (by decide) (fun K hK => ?_)
               refine box_step ?hg (N := 8) ?hd (cs := #[.int .i64 0, .int .i64 0, .int .i64 0, .int .i64 0, .int .i64 0]) (t := 52) ?hr ?_; (case hd => rfl); (case hg => rfl); (case hr => first | (go_simp; done) | (go_simp; rfl))
               intro gb271 hg w65 hbox hb
               have n0_ := Aside0.mk (blk_below (g := gb264) (o := .cells #[.int .i64 a2_0, .int .i64 a2_1, .int .i64 a2_2, .int .i64 a2_3] 25 (0, 0)) (nB BK264.out) hb)
               have n1_ := Aside0.mk (blk_below (g := gb272) (o := .cells #[.int .i64 0, .int .i64 0, .int .i64 0, .int .i64 0, .int .i64 0] 52 (0, 0)) (nB BK272.out) hb)
               have n2_ := Aside0.mk (below_step (nH2 HB.out GE264.out GE272.out) hb)
               have n3_ := Aside0.mk (hbox)
               have n4_ := Aside0.mk ((by rw [hg]; exact (below_size (nH2 HB.out GE264.out GE272.out)) : w.heap.size ≤ gb271))
               have n5_ := Aside0.mk ((by rw [hg]; exact (below_size (nH2 HB.out GE264.out GE272.out)) : w.heap.size ≤ gb271))
               have n6_ := Aside0.mk ((by rw [hg]; exact Nat.ne_of_lt (blk_lt (g := gb264) (o := .cells #[.int .i64 a2_0, .int .i64 a2_1, .int .i64 a2_2, .int .i64 a2_3] 25 (0, 0)) (nB BK264.out)) : gb264 ≠ gb271))
               have n7_ := Aside0.mk ((by rw [hg]; exact Nat.ne_of_gt (blk_lt (g := gb264) (o := .cells #[.int .i64 a2_0, .int .i64 a2_1, .int .i64 a2_2, .int .i64 a2_3] 25 (0, 0)) (nB BK264.out)) : gb271 ≠ gb264))
               have n8_ := Aside0.mk ((by rw [hg]; exact Nat.ne_of_lt (blk_lt (g := gb272) (o := .cells #[.int .i64 0, .int .i64 0, .int .i64 0, .int .i64 0, .int .i64 0] 52 (0, 0)) (nB BK272.out)) : gb272 ≠ gb271))
               have n9_ := Aside0.mk ((by rw [hg]; exact Nat.ne_of_gt (blk_lt (g := gb272) (o := .cells #[.int .i64 0, .int .i64 0, .int .i64 0, .int .i64 0, .int .i64 0] 52 (0, 0)) (nB BK272.out)) : gb271 ≠ gb272))
               clear BK264; clear BK272; clear HB; have BK264 := n0_; have BK272 := n1_; have HB := n2_; have BK271 := n3_; have GW271 := n4_; have GE271 := n5_; have NB264_271 := n6_; have NB271_264 := n7_; have NB272_271 := n8_; have NB271_272 := n9_; clear n0_ n1_ n2_ n3_ n4_ n5_ n6_ n7_ n8_ n9_; clear hb hbox hg
               refine hK.out _ _ ⟨(nC HB.out hw267_0 :), (nC HB.out hw268_0 :), (nC HB.out hw268_1 :), (nC HB.out hw268_2 :), (nC HB.out hw268_3 :), (nC HB.out hw268_4 :), (nC HB.out hw269_0 :), (nC HB.out hw270_0 :), (nC HB.out hw270_1 :), (nC HB.out hw270_2 :), (nC HB.out hw270_3 :), (nC HB.out hw270_4 :)⟩ (fun hHeld => ?_)
               clear hK K
               refine norm_ (a' := ?_) ?_ ?_
               rotate_left
               · show Act.put _ (some 8) _ = _
                 simp only [Act.put, List.setIfInBounds_toArray, List.set_cons_zero, List.set_cons_succ, i64_w, i32_w]
                 rfl
               exact norm_ (by simp only [putAll, Act.put, List.setIfInBounds_toArray, List.set_cons_zero, List.set_cons_succ]) (hCont (gb271, gb272) _ ⟨hHeld, (nB BK264.out), (nB BK271.out), (nB BK272.out), GW271.out, GE271.out, NB264_271.out, NB271_264.out, NB272_271.out, NB271_272.out, GW272.out, GE272.out, NB264_272.out, NB272_264.out, (nH3 HB.out GE264.out GE272.out GE271.out)⟩)
           rintro ⟨gb271, gb272⟩ w66 ⟨hS_, h0_, h1_, h2_, h3_, h4_, h5_, h6_, h7_, h8_, h9_, h10_, h11_, h12_, h13_⟩
           have n0_ : Aside0 (w66.heap[gb264]? = some (.cells #[.int .i64 a2_0, .int .i64 a2_1, .int .i64 a2_2, .int .i64 a2_3] 25 (0, 0))) := ⟨h0_⟩
           have n1_ : Aside0 (w66.heap[gb271]? = some (.cells #[.int .i64 0, .int .i64 0, .int .i64 0, .int .i64 0, .int .i64 0] 52 (0, 0))) := ⟨h1_⟩
           have n2_ : Aside0 (w66.heap[gb272]? = some (.cells #[.int .i64 0, .int .i64 0, .int .i64 0, .int .i64 0, .int .i64 0] 52 (0, 0))) := ⟨h2_⟩
           have n3_ : Aside0 (w.heap.size ≤ gb271) := ⟨h3_⟩
           have n4_ : Aside0 (w.heap.size ≤ gb271) := ⟨h4_⟩
           have n5_ : Aside0 (gb264 ≠ gb271) := ⟨h5_⟩
           have n6_ : Aside0 (gb271 ≠ gb264) := ⟨h6_⟩
           have n7_ : Aside0 (gb272 ≠ gb271) := ⟨h7_⟩
           have n8_ : Aside0 (gb271 ≠ gb272) := ⟨h8_⟩
           have n9_ : Aside0 (w.heap.size ≤ gb272) := ⟨h9_⟩
           have n10_ : Aside0 (w.heap.size ≤ gb272) := ⟨h10_⟩
           have n11_ : Aside0 (gb264 ≠ gb272) := ⟨h11_⟩
           have n12_ : Aside0 (gb272 ≠ gb264) := ⟨h12_⟩
           have n13_ : Aside0 (Below w.heap.size w w66) := ⟨h13_⟩
           clear BK264; clear HB; clear h0_ h1_ h2_ h3_ h4_ h5_ h6_ h7_ h8_ h9_ h10_ h11_ h12_ h13_; have BK264 := n0_; have BK271 := n1_; have BK272 := n2_; have GW271 := n3_; have GE271 := n4_; have NB264_271 := n5_; have NB271_264 := n6_; have NB272_271 := n7_; have NB271_272 := n8_; have GW272 := n9_; have GE272 := n10_; have NB264_272 := n11_; have NB272_264 := n12_; have HB := n13_; clear n0_ n1_ n2_ n3_ n4_ n5_ n6_ n7_ n8_ n9_ n10_ n11_ n12_ n13_
           have hHeld : w66.cell? (ad267.add ((ji15)).toNat) = some (.int .i64 (rd l1 (ji15))) ∧ w66.cell? (ad268.add (((rd l1 (ji15))).toNat * 5)) = some (.int .i64 ((rd_T52 l0 (rd l1 (ji15))).f0)) ∧ w66.cell? ⟨(ad268.add (((rd l1 (ji15))).toNat * 5)).block, (ad268.add (((rd l1 (ji15))).toNat * 5)).off + 1, none⟩ = some (.int .i64 ((rd_T52 l0 (rd l1 (ji15))).f1)) ∧ w66.cell? ⟨(ad268.add (((rd l1 (ji15))).toNat * 5)).block, (ad268.add (((rd l1 (ji15))).toNat * 5)).off + 2, none⟩ = some (.int .i64 ((rd_T52 l0 (rd l1 (ji15))).f2)) ∧ w66.cell? ⟨(ad268.add (((rd l1 (ji15))).toNat * 5)).block, (ad268.add (((rd l1 (ji15))).toNat * 5)).off + 3, none⟩ = some (.int .i64 ((rd_T52 l0 (rd l1 (ji15))).f3)) ∧ w66.cell? ⟨(ad268.add (((rd l1 (ji15))).toNat * 5)).block, (ad268.add (((rd l1 (ji15))).toNat * 5)).off + 4, none⟩ = some (.int .i64 ((rd_T52 l0 (rd l1 (ji15))).f4)) ∧ w66.cell? (ad267.add (x7_2).toNat) = some (.int .i64 (rd l1 x7_2)) ∧ w66.cell? (ad268.add (((rd l1 x7_2)).toNat * 5)) = some (.int .i64 ((rd_T52 l0 (rd l1 x7_2)).f0)) ∧ w66.cell? ⟨(ad268.add (((rd l1 x7_2)).toNat * 5)).block, (ad268.add (((rd l1 x7_2)).toNat * 5)).off + 1, none⟩ = some (.int .i64 ((rd_T52 l0 (rd l1 x7_2)).f1)) ∧ w66.cell? ⟨(ad268.add (((rd l1 x7_2)).toNat * 5)).block, (ad268.add (((rd l1 x7_2)).toNat * 5)).off + 2, none⟩ = some (.int .i64 ((rd_T52 l0 (rd l1 x7_2)).f2)) ∧ w66.cell? ⟨(ad268.add (((rd l1 x7_2)).toNat * 5)).block, (ad268.add (((rd l1 x7_2)).toNat * 5)).off + 3, none⟩ = some (.int .i64 ((rd_T52 l0 (rd l1 x7_2)).f3)) ∧ w66.cell? ⟨(ad268.add (((rd l1 x7_2)).toNat * 5)).block, (ad268.add (((rd l1 x7_2)).toNat * 5)).off + 4, none⟩ = some (.int .i64 ((rd_T52 l0 (rd l1 x7_2)).f4)) := hS_
           refine norm_ (a' := ?_) ?_ ?_
           rotate_left
           · simp only [putAll, Act.put, List.setIfInBounds_toArray, List.set_cons_zero, List.set_cons_succ]
             rfl
           refine one_ (i := 17) (N := none) #[T,T,T,T,T,T,T,T,T,T,T,T,T,T,T,T,T,T,F] rfl rfl (one_of HT_.out (by kernel_rfl)) (by decide) (fun K hK => ?_)
           have hs67 : w66.cell? ⟨gb271, 0, none⟩ = some (.int .i64 0) := (blk_cell BK271.out 0).trans rfl
           have hfs67 := blk_frozen BK271.out 0
           have hns67_0 := NB264_271.out; have hns67_2 := NB272_271.out; have hms67_0 := NB271_264.out; have hms67_2 := NB271_272.out
           have hs68 : w66.cell? ⟨gb271, 1, none⟩ = some (.int .i64 0) := (blk_cell BK271.out 1).trans rfl
           have hfs68 := blk_frozen BK271.out 1
           have hns68_0 := NB264_271.out; have hns68_2 := NB272_271.out; have hms68_0 := NB271_264.out; have hms68_2 := NB271_272.out
           have hs69 : w66.cell? ⟨gb271, 2, none⟩ = some (.int .i64 0) := (blk_cell BK271.out 2).trans rfl
           have hfs69 := blk_frozen BK271.out 2
           have hns69_0 := NB264_271.out; have hns69_2 := NB272_271.out; have hms69_0 := NB271_264.out; have hms69_2 := NB271_272.out
           have hs70 : w66.cell? ⟨gb271, 3, none⟩ = some (.int .i64 0) := (blk_cell BK271.out 3).trans rfl
           have hfs70 := blk_frozen BK271.out 3
           have hns70_0 := NB264_271.out; have hns70_2 := NB272_271.out; have hms70_0 := NB271_264.out; have hms70_2 := NB271_272.out
           have hs71 : w66.cell? ⟨gb271, 4, none⟩ = some (.int .i64 0) := (blk_cell BK271.out 4).trans rfl
           have hfs71 := blk_frozen BK271.out 4
           have hns71_0 := NB264_271.out; have hns71_2 := NB272_271.out; have hms71_0 := NB271_264.out; have hms71_2 := NB271_272.out
           refine skip_ (w1 := ?_) (by rfl) rfl ?_ ?_
           rotate_left
           · go_simp; rfl
           refine hK.out _ _ ⟨((nF gb271 hw267_0 GW271.out).trans (((nF gb271 hw267_0 GW271.out).trans (((nF gb271 hw267_0 GW271.out).trans (((nF gb271 hw267_0 GW271.out).trans (((nF gb271 hw267_0 GW271.out).trans (hHeld.1)))))))))), ((nF gb271 hw268_0 GW271.out).trans (((nF gb271 hw268_0 GW271.out).trans (((nF gb271 hw268_0 GW271.out).trans (((nF gb271 hw268_0 GW271.out).trans (((nF gb271 hw268_0 GW271.out).trans (hHeld.2.1)))))))))), ((nF gb271 hw268_1 GW271.out).trans (((nF gb271 hw268_1 GW271.out).trans (((nF gb271 hw268_1 GW271.out).trans (((nF gb271 hw268_1 GW271.out).trans (((nF gb271 hw268_1 GW271.out).trans (hHeld.2.2.1)))))))))), ((nF gb271 hw268_2 GW271.out).trans (((nF gb271 hw268_2 GW271.out).trans (((nF gb271 hw268_2 GW271.out).trans (((nF gb271 hw268_2 GW271.out).trans (((nF gb271 hw268_2 GW271.out).trans (hHeld.2.2.2.1)))))))))), ((nF gb271 hw268_3 GW271.out).trans (((nF gb271 hw268_3 GW271.out).trans (((nF gb271 hw268_3 GW271.out).trans (((nF gb271 hw268_3 GW271.out).trans (((nF gb271 hw268_3 GW271.out).trans (hHeld.2.2.2.2.1)))))))))), ((nF gb271 hw268_4 GW271.out).trans (((nF gb271 hw268_4 GW271.out).trans (((nF gb271 hw268_4 GW271.out).trans (((nF gb271 hw268_4 GW271.out).trans (((nF gb271 hw268_4 GW271.out).trans (hHeld.2.2.2.2.2.1)))))))))), ((nF gb271 hw269_0 GW271.out).trans (((nF gb271 hw269_0 GW271.out).trans (((nF gb271 hw269_0 GW271.out).trans (((nF gb271 hw269_0 GW271.out).trans (((nF gb271 hw269_0 GW271.out).trans (hHeld.2.2.2.2.2.2.1)))))))))), ((nF gb271 hw270_0 GW271.out).trans (((nF gb271 hw270_0 GW271.out).trans (((nF gb271 hw270_0 GW271.out).trans (((nF gb271 hw270_0 GW271.out).trans (((nF gb271 hw270_0 GW271.out).trans (hHeld.2.2.2.2.2.2.2.1)))))))))), ((nF gb271 hw270_1 GW271.out).trans (((nF gb271 hw270_1 GW271.out).trans (((nF gb271 hw270_1 GW271.out).trans (((nF gb271 hw270_1 GW271.out).trans (((nF gb271 hw270_1 GW271.out).trans (hHeld.2.2.2.2.2.2.2.2.1)))))))))), ((nF gb271 hw270_2 GW271.out).trans (((nF gb271 hw270_2 GW271.out).trans (((nF gb271 hw270_2 GW271.out).trans (((nF gb271 hw270_2 GW271.out).trans (((nF gb271 hw270_2 GW271.out).trans (hHeld.2.2.2.2.2.2.2.2.2.1)))))))))), ((nF gb271 hw270_3 GW271.out).trans (((nF gb271 hw270_3 GW271.out).trans (((nF gb271 hw270_3 GW271.out).trans (((nF gb271 hw270_3 GW271.out).trans (((nF gb271 hw270_3 GW271.out).trans (hHeld.2.2.2.2.2.2.2.2.2.2.1)))))))))), ((nF gb271 hw270_4 GW271.out).trans (((nF gb271 hw270_4 GW271.out).trans (((nF gb271 hw270_4 GW271.out).trans (((nF gb271 hw270_4 GW271.out).trans (((nF gb271 hw270_4 GW271.out).trans (hHeld.2.2.2.2.2.2.2.2.2.2.2))))))))))⟩ (fun hHeld => ?_)
           clear hK K
           refine one_ (i := 18) (N := none) #[T,T,T,T,T,T,T,T,T,T,T,T,T,T,T,T,T,T,T] rfl rfl (one_of HT_.out (by kernel_rfl)) (by decide) (fun K hK => ?_)
           have hs72 : w66.cell? ⟨gb272, 0, none⟩ = some (.int .i64 0) := (blk_cell BK272.out 0).trans rfl
           have hfs72 := blk_frozen BK272.out 0
           have hns72_0 := NB264_272.out; have hns72_1 := NB271_272.out; have hms72_0 := NB272_264.out; have hms72_1 := NB272_271.out
           have hs73 : w66.cell? ⟨gb272, 1, none⟩ = some (.int .i64 0) := (blk_cell BK272.out 1).trans rfl
           have hfs73 := blk_frozen BK272.out 1
           have hns73_0 := NB264_272.out; have hns73_1 := NB271_272.out; have hms73_0 := NB272_264.out; have hms73_1 := NB272_271.out
           have hs74 : w66.cell? ⟨gb272, 2, none⟩ = some (.int .i64 0) := (blk_cell BK272.out 2).trans rfl
           have hfs74 := blk_frozen BK272.out 2
           have hns74_0 := NB264_272.out; have hns74_1 := NB271_272.out; have hms74_0 := NB272_264.out; have hms74_1 := NB272_271.out
           have hs75 : w66.cell? ⟨gb272, 3, none⟩ = some (.int .i64 0) := (blk_cell BK272.out 3).trans rfl
           have hfs75 := blk_frozen BK272.out 3
           have hns75_0 := NB264_272.out; have hns75_1 := NB271_272.out; have hms75_0 := NB272_264.out; have hms75_1 := NB272_271.out
           have hs76 : w66.cell? ⟨gb272, 4, none⟩ = some (.int .i64 0) := (blk_cell BK272.out 4).trans rfl
           have hfs76 := blk_frozen BK272.out 4
           have hns76_0 := NB264_272.out; have hns76_1 := NB271_272.out; have hms76_0 := NB272_264.out; have hms76_1 := NB272_271.out
           refine skip_ (w1 := ?_) (by rfl) rfl ?_ ?_
           rotate_left
           · go_simp; rfl
           refine hK.out _ _ ⟨((nF gb272 hw267_0 GW272.out).trans (((nF gb272 hw267_0 GW272.out).trans (((nF gb272 hw267_0 GW272.out).trans (((nF gb272 hw267_0 GW272.out).trans (((nF gb272 hw267_0 GW272.out).trans (hHeld.1)))))))))), ((nF gb272 hw268_0 GW272.out).trans (((nF gb272 hw268_0 GW272.out).trans (((nF gb272 hw268_0 GW272.out).trans (((nF gb272 hw268_0 GW272.out).trans (((nF gb272 hw268_0 GW272.out).trans (hHeld.2.1)))))))))), ((nF gb272 hw268_1 GW272.out).trans (((nF gb272 hw268_1 GW272.out).trans (((nF gb272 hw268_1 GW272.out).trans (((nF gb272 hw268_1 GW272.out).trans (((nF gb272 hw268_1 GW272.out).trans (hHeld.2.2.1)))))))))), ((nF gb272 hw268_2 GW272.out).trans (((nF gb272 hw268_2 GW272.out).trans (((nF gb272 hw268_2 GW272.out).trans (((nF gb272 hw268_2 GW272.out).trans (((nF gb272 hw268_2 GW272.out).trans (hHeld.2.2.2.1)))))))))), ((nF gb272 hw268_3 GW272.out).trans (((nF gb272 hw268_3 GW272.out).trans (((nF gb272 hw268_3 GW272.out).trans (((nF gb272 hw268_3 GW272.out).trans (((nF gb272 hw268_3 GW272.out).trans (hHeld.2.2.2.2.1)))))))))), ((nF gb272 hw268_4 GW272.out).trans (((nF gb272 hw268_4 GW272.out).trans (((nF gb272 hw268_4 GW272.out).trans (((nF gb272 hw268_4 GW272.out).trans (((nF gb272 hw268_4 GW272.out).trans (hHeld.2.2.2.2.2.1)))))))))), ((nF gb272 hw269_0 GW272.out).trans (((nF gb272 hw269_0 GW272.out).trans (((nF gb272 hw269_0 GW272.out).trans (((nF gb272 hw269_0 GW272.out).trans (((nF gb272 hw269_0 GW272.out).trans (hHeld.2.2.2.2.2.2.1)))))))))), ((nF gb272 hw270_0 GW272.out).trans (((nF gb272 hw270_0 GW272.out).trans (((nF gb272 hw270_0 GW272.out).trans (((nF gb272 hw270_0 GW272.out).trans (((nF gb272 hw270_0 GW272.out).trans (hHeld.2.2.2.2.2.2.2.1)))))))))), ((nF gb272 hw270_1 GW272.out).trans (((nF gb272 hw270_1 GW272.out).trans (((nF gb272 hw270_1 GW272.out).trans (((nF gb272 hw270_1 GW272.out).trans (((nF gb272 hw270_1 GW272.out).trans (hHeld.2.2.2.2.2.2.2.2.1)))))))))), ((nF gb272 hw270_2 GW272.out).trans (((nF gb272 hw270_2 GW272.out).trans (((nF gb272 hw270_2 GW272.out).trans (((nF gb272 hw270_2 GW272.out).trans (((nF gb272 hw270_2 GW272.out).trans (hHeld.2.2.2.2.2.2.2.2.2.1)))))))))), ((nF gb272 hw270_3 GW272.out).trans (((nF gb272 hw270_3 GW272.out).trans (((nF gb272 hw270_3 GW272.out).trans (((nF gb272 hw270_3 GW272.out).trans (((nF gb272 hw270_3 GW272.out).trans (hHeld.2.2.2.2.2.2.2.2.2.2.1)))))))))), ((nF gb272 hw270_4 GW272.out).trans (((nF gb272 hw270_4 GW272.out).trans (((nF gb272 hw270_4 GW272.out).trans (((nF gb272 hw270_4 GW272.out).trans (((nF gb272 hw270_4 GW272.out).trans (hHeld.2.2.2.2.2.2.2.2.2.2.2))))))))))⟩ (fun hHeld => ?_)
           clear hK K
           refine done_ (done_of HT_.out (by kernel_rfl)) ?_
           have hnb77 := NB271_264.out; have hnc77 := NB264_271.out; have hnb78 := NB271_272.out; have hnc78 := NB272_271.out
           have hcz79_0 : w66.cell? ⟨gb271, 0, none⟩ = some (.int .i64 0) := (blk_cell BK271.out 0).trans rfl
           have hcz79_1 : w66.cell? ⟨gb271, 1, none⟩ = some (.int .i64 0) := (blk_cell BK271.out 1).trans rfl
           have hcz79_2 : w66.cell? ⟨gb271, 2, none⟩ = some (.int .i64 0) := (blk_cell BK271.out 2).trans rfl
           have hcz79_3 : w66.cell? ⟨gb271, 3, none⟩ = some (.int .i64 0) := (blk_cell BK271.out 3).trans rfl
           have hcz79_4 : w66.cell? ⟨gb271, 4, none⟩ = some (.int .i64 0) := (blk_cell BK271.out 4).trans rfl
           have hfz79_0 := blk_frozen BK271.out 0
           have hfz79_1 := blk_frozen BK271.out 1
           have hfz79_2 := blk_frozen BK271.out 2
           have hfz79_3 := blk_frozen BK271.out 3
           have hfz79_4 := blk_frozen BK271.out 4
           have hnb80 := NB272_264.out; have hnc80 := NB264_272.out
           have hcz81_0 : w66.cell? ⟨gb272, 0, none⟩ = some (.int .i64 0) := (blk_cell BK272.out 0).trans rfl
           have hcz81_1 : w66.cell? ⟨gb272, 1, none⟩ = some (.int .i64 0) := (blk_cell BK272.out 1).trans rfl
           have hcz81_2 : w66.cell? ⟨gb272, 2, none⟩ = some (.int .i64 0) := (blk_cell BK272.out 2).trans rfl
           have hcz81_3 : w66.cell? ⟨gb272, 3, none⟩ = some (.int .i64 0) := (blk_cell BK272.out 3).trans rfl
           have hcz81_4 : w66.cell? ⟨gb272, 4, none⟩ = some (.int .i64 0) := (blk_cell BK272.out 4).trans rfl
           have hfz81_0 := blk_frozen BK272.out 0
           have hfz81_1 := blk_frozen BK272.out 1
           have hfz81_2 := blk_frozen BK272.out 2
           have hfz81_3 := blk_frozen BK272.out 3
           have hfz81_4 := blk_frozen BK272.out 4
           try go_wp2
           go_ret
           exact ⟨by first | rfl | (simp [errW_none, errW_some] <;> rfl) | (simp only [← hji15]; first | rfl | (simp [errW_none, errW_some] <;> rfl)) | (simp [*, errW_none, errW_some] <;> first | rfl | (simp [wrap64]; done)), nH3 HB.out GE264.out GE271.out GE272.out⟩
       · rw [if_neg c14] at H
         have c14b0 : decide (x7_2 < (l1.length : Int)) = false := decide_eq_false c14
         clear c14
         obtain ⟨ji82, hji82⟩ : ∃ j_ : Int, (wrap64 ((l1.length : Int) - 1)) = j_ := ⟨_, rfl⟩
         replace H : (if 0 ≤ (ji82) then (if (ji82) < (l1.length : Int) then (if 0 ≤ (rd l1 (ji82)) then (if (rd l1 (ji82)) < (l0.length : Int) then (if 0 < (l1.length : Int) then (if 0 ≤ (rd l1 0) then (if (rd l1 0) < (l0.length : Int) then (if (wrap64 (((rd_T52 l0 (rd l1 (ji82))).f3) - ((rd_T52 l0 (rd l1 0)).f2))) > a2_0 then (some 3) else ((spec_Driven.f k2 l0 l1).bind fun t277 => (if t277 > a2_1 then (some 4) else ((spec_Stretched.f k2 l0 l1 a2_2).bind fun t278 => (if t278 > a2_3 then (some 5) else (some 0)))))) else (none)) else (none)) else (none)) else (none)) else (none)) else (none)) else (none)) = some r := by first | (rw [hji82] at H; exact H) | (simp only [hji82] at H ⊢; exact H)
         have hji82w : (IntKind.i64.wrap ((l1.length : Int) - 1)) = ji82 := (i64_w _).trans hji82
         by_cases c83 : 0 ≤ (ji82)
         rotate_left
         · (rw [if_neg c83] at H; exact absurd H (by simp))
         rw [if_pos c83] at H
         have c83b0 : decide (0 ≤ (ji82)) = true := decide_eq_true c83
         clear c83
         by_cases c84 : (ji82) < (l1.length : Int)
         rotate_left
         · (rw [if_neg c84] at H; exact absurd H (by simp))
         rw [if_pos c84] at H
         have c84b0 : decide ((ji82) < (l1.length : Int)) = true := decide_eq_true c84
         clear c84
         by_cases c85 : 0 ≤ (rd l1 (ji82))
         rotate_left
         · (rw [if_neg c85] at H; exact absurd H (by simp))
         rw [if_pos c85] at H
         have c85b0 : decide (0 ≤ (rd l1 (ji82))) = true := decide_eq_true c85
         clear c85
         by_cases c86 : (rd l1 (ji82)) < (l0.length : Int)
         rotate_left
         · (rw [if_neg c86] at H; exact absurd H (by simp))
         rw [if_pos c86] at H
         have c86b0 : decide ((rd l1 (ji82)) < (l0.length : Int)) = true := decide_eq_true c86
         clear c86
         by_cases c87 : 0 < (l1.length : Int)
         rotate_left
         · (rw [if_neg c87] at H; exact absurd H (by simp))
         rw [if_pos c87] at H
         have c87b0 : decide (0 < (l1.length : Int)) = true := decide_eq_true c87
         have c87b1 : decide (0 < l1.length) = true := decide_eq_true (by omega)
         clear c87
         by_cases c88 : 0 ≤ (rd l1 0)
         rotate_left
         · (rw [if_neg c88] at H; exact absurd H (by simp))
         rw [if_pos c88] at H
         have c88b0 : decide (0 ≤ (rd l1 0)) = true := decide_eq_true c88
         clear c88
         by_cases c89 : (rd l1 0) < (l0.length : Int)
         rotate_left
         · (rw [if_neg c89] at H; exact absurd H (by simp))
         rw [if_pos c89] at H
         have c89b0 : decide ((rd l1 0) < (l0.length : Int)) = true := decide_eq_true c89
         clear c89
         by_cases c90 : (wrap64 (((rd_T52 l0 (rd l1 (ji82))).f3) - ((rd_T52 l0 (rd l1 0)).f2))) > a2_0
         · rw [if_pos c90] at H
           have c90b0 : decide (a2_0 < (wrap64 (((rd_T52 l0 (rd l1 (ji82))).f3) - ((rd_T52 l0 (rd l1 0)).f2)))) = true := decide_eq_true c90
           clear c90; obtain rfl := Option.some.inj H
           try go_wp2
           have n0_ := Aside0.mk (blk_drew BK264.out)
           have n1_ := Aside0.mk (below_drew1 HB.out)
           clear BK264; clear HB; have BK264 := n0_; have HB := n1_; clear n0_ n1_
           have p273 : 0 ≤ ((ji82) : Int) := of_decide_eq_true nQ
           have q273 : (ji82) < (l1.length : Int) := of_decide_eq_true nQ
           obtain ⟨ad273, e273, hx273_0⟩ := Kd.at_int HR1.out (ji82) p273 q273
           have hw273_0 := hx273_0; cases e273
           replace hx273_0 := (HB.out.cell (World.block_lt_of_cell? w _ hx273_0)).trans hx273_0
           replace p273 := eq_true p273; replace q273 := eq_true q273
           have p274 : 0 ≤ ((rd l1 (ji82)) : Int) := of_decide_eq_true nQ
           have q274 : (rd l1 (ji82)) < (l0.length : Int) := of_decide_eq_true nQ
           obtain ⟨ad274, e274, hx274_0, hx274_1, hx274_2, hx274_3, hx274_4⟩ := at_T52 HR0.out (rd l1 (ji82)) p274 q274
           have hw274_4 := hx274_4; have hw274_3 := hx274_3; have hw274_2 := hx274_2; have hw274_1 := hx274_1; have hw274_0 := hx274_0; cases e274
           replace hx274_0 := (HB.out.cell (World.block_lt_of_cell? w _ hx274_0)).trans hx274_0
           replace hx274_1 := (HB.out.cell (World.block_lt_of_cell? w _ hx274_1)).trans hx274_1
           replace hx274_2 := (HB.out.cell (World.block_lt_of_cell? w _ hx274_2)).trans hx274_2
           replace hx274_3 := (HB.out.cell (World.block_lt_of_cell? w _ hx274_3)).trans hx274_3
           replace hx274_4 := (HB.out.cell (World.block_lt_of_cell? w _ hx274_4)).trans hx274_4
           replace p274 := eq_true p274; replace q274 := eq_true q274
           have p275 : 0 ≤ (0 : Int) := (by omega)
           have q275 : 0 < (l1.length : Int) := of_decide_eq_true nQ
           obtain ⟨ad275, e275, hx275_0⟩ := Kd.at_int HR1.out 0 p275 q275
           have hw275_0 := hx275_0
           (try rw [show ((0 : Int)).toNat = 0 from rfl] at hw275_0)
           (try rw [show 0 * 1 = 0 from rfl] at hw275_0)
           (try rw [Addr.add_zero'] at hw275_0)
           obtain rfl : ad273 = ad275 := (by injection e275)
           have qi275 : (0 < l1.length) = True := eq_true (by omega)
           (try rw [show ((0 : Int)).toNat = 0 from rfl] at hx275_0)
           (try rw [Addr.add_zero'] at hx275_0)
           replace hx275_0 := (HB.out.cell (World.block_lt_of_cell? w _ hx275_0)).trans hx275_0
           replace p275 := eq_true p275; replace q275 := eq_true q275
           have p276 : 0 ≤ ((rd l1 0) : Int) := of_decide_eq_true nQ
           have q276 : (rd l1 0) < (l0.length : Int) := of_decide_eq_true nQ
           obtain ⟨ad276, e276, hx276_0, hx276_1, hx276_2, hx276_3, hx276_4⟩ := at_T52 HR0.out (rd l1 0) p276 q276
           have hw276_4 := hx276_4; have hw276_3 := hx276_3; have hw276_2 := hx276_2; have hw276_1 := hx276_1; have hw276_0 := hx276_0
           obtain rfl : ad274 = ad276 := (by injection e276)
           replace hx276_0 := (HB.out.cell (World.block_lt_of_cell? w _ hx276_0)).trans hx276_0
           replace hx276_1 := (HB.out.cell (World.block_lt_of_cell? w _ hx276_1)).trans hx276_1
           replace hx276_2 := (HB.out.cell (World.block_lt_of_cell? w _ hx276_2)).trans hx276_2
           replace hx276_3 := (HB.out.cell (World.block_lt_of_cell? w _ hx276_3)).trans hx276_3
           replace hx276_4 := (HB.out.cell (World.block_lt_of_cell? w _ hx276_4)).trans hx276_4
           replace p276 := eq_true p276; replace q276 := eq_true q276
           refine start_ (n := 21) (S := fun w' => w'.cell? ⟨gb264, 0, none⟩ = some (.int .i64 a2_0) ∧ w'.cell? ⟨gb264, 1, none⟩ = some (.int .i64 a2_1) ∧ w'.cell? ⟨gb264, 2, none⟩ = some (.int .i64 a2_2) ∧ w'.cell? ⟨gb264, 3, none⟩ = some (.int .i64 a2_3) ∧ w'.cell? (ad273.add ((ji82)).toNat) = some (.int .i64 (rd l1 (ji82))) ∧ w'.cell? (ad274.add (((rd l1 (ji82))).toNat * 5)) = some (.int .i64 ((rd_T52 l0 (rd l1 (ji82))).f0)) ∧ w'.cell? ⟨(ad274.add (((rd l1 (ji82))).toNat * 5)).block, (ad274.add (((rd l1 (ji82))).toNat * 5)).off + 1, none⟩ = some (.int .i64 ((rd_T52 l0 (rd l1 (ji82))).f1)) ∧ w'.cell? ⟨(ad274.add (((rd l1 (ji82))).toNat * 5)).block, (ad274.add (((rd l1 (ji82))).toNat * 5)).off + 2, none⟩ = some (.int .i64 ((rd_T52 l0 (rd l1 (ji82))).f2)) ∧ w'.cell? ⟨(ad274.add (((rd l1 (ji82))).toNat * 5)).block, (ad274.add (((rd l1 (ji82))).toNat * 5)).off + 3, none⟩ = some (.int .i64 ((rd_T52 l0 (rd l1 (ji82))).f3)) ∧ w'.cell? ⟨(ad274.add (((rd l1 (ji82))).toNat * 5)).block, (ad274.add (((rd l1 (ji82))).toNat * 5)).off + 4, none⟩ = some (.int .i64 ((rd_T52 l0 (rd l1 (ji82))).f4)) ∧ w'.cell? ad273 = some (.int .i64 (rd l1 0)) ∧ w'.cell? (ad274.add (((rd l1 0)).toNat * 5)) = some (.int .i64 ((rd_T52 l0 (rd l1 0)).f0)) ∧ w'.cell? ⟨(ad274.add (((rd l1 0)).toNat * 5)).block, (ad274.add (((rd l1 0)).toNat * 5)).off + 1, none⟩ = some (.int .i64 ((rd_T52 l0 (rd l1 0)).f1)) ∧ w'.cell? ⟨(ad274.add (((rd l1 0)).toNat * 5)).block, (ad274.add (((rd l1 0)).toNat * 5)).off + 2, none⟩ = some (.int .i64 ((rd_T52 l0 (rd l1 0)).f2)) ∧ w'.cell? ⟨(ad274.add (((rd l1 0)).toNat * 5)).block, (ad274.add (((rd l1 0)).toNat * 5)).off + 3, none⟩ = some (.int .i64 ((rd_T52 l0 (rd l1 0)).f3)) ∧ w'.cell? ⟨(ad274.add (((rd l1 0)).toNat * 5)).block, (ad274.add (((rd l1 0)).toNat * 5)).off + 4, none⟩ = some (.int .i64 ((rd_T52 l0 (rd l1 0)).f4))) (ds := []) #[F,F,F,F,F,F,F,F,F,F,F,F,F,F,F,F,F,F,F,F,F] (by kernel_rfl) rfl rfl ⟨(blk_cell BK264.out 0).trans rfl, (blk_cell BK264.out 1).trans rfl, (blk_cell BK264.out 2).trans rfl, (blk_cell BK264.out 3).trans rfl, (nC HB.out hw273_0 :), (nC HB.out hw274_0 :), (nC HB.out hw274_1 :), (nC HB.out hw274_2 :), (nC HB.out hw274_3 :), (nC HB.out hw274_4 :), (nC HB.out hw275_0 :), (nC HB.out hw276_0 :), (nC HB.out hw276_1 :), (nC HB.out hw276_2 :), (nC HB.out hw276_3 :), (nC HB.out hw276_4 :)⟩ (fun hHeld => ?_); refine with_tabW spec_DutyCode.tab9 spec_DutyCode.bits9 (fun HT_ HW_ => ?_)
           generalize wr.drew = w91 at BK264 HB hx273_0 hx274_0 hx274_1 hx274_2 hx274_3 hx274_4 hx275_0 hx276_0 hx276_1 hx276_2 hx276_3 hx276_4 hHeld ⊢
           refine pU 0 (some 52) #[T,F,F,F,F,F,F,F,F,F,F,F,F,F,F,F,F,F,F,F,F] rfl rfl HT_.out ?_
           refine pU 1 (some 53) #[T,T,F,F,F,F,F,F,F,F,F,F,F,F,F,F,F,F,F,F,F] rfl rfl HT_.out ?_
           refine pU 2 (some 54) #[T,T,T,F,F,F,F,F,F,F,F,F,F,F,F,F,F,F,F,F,F] rfl rfl HT_.out ?_
           refine pU 3 (some 55) #[T,T,T,T,F,F,F,F,F,F,F,F,F,F,F,F,F,F,F,F,F] rfl rfl HT_.out ?_
           refine pU 4 (some 56) #[T,T,T,T,T,F,F,F,F,F,F,F,F,F,F,F,F,F,F,F,F] rfl rfl HT_.out ?_
           refine pU 5 (some 57) #[T,T,T,T,T,T,F,F,F,F,F,F,F,F,F,F,F,F,F,F,F] rfl rfl HT_.out ?_
           refine pU 10 (some 62) #[T,T,T,T,T,T,F,F,F,F,T,F,F,F,F,F,F,F,F,F,F] rfl rfl HT_.out ?_
           refine pU 11 (some 63) #[T,T,T,T,T,T,F,F,F,F,T,T,F,F,F,F,F,F,F,F,F] rfl rfl HT_.out ?_
           refine pU 12 (some 64) #[T,T,T,T,T,T,F,F,F,F,T,T,T,F,F,F,F,F,F,F,F] rfl rfl HT_.out ?_
           refine pU 18 (some 70) #[T,T,T,T,T,T,F,F,F,F,T,T,T,F,F,F,F,F,T,F,F] rfl rfl HT_.out ?_
           refine tU16 6 (some 58) #[T,T,T,T,T,T,T,F,F,F,T,T,T,F,F,F,F,F,T,F,F] rfl rfl HT_.out HW_.out hHeld ?_
           refine pU 7 (some 59) #[T,T,T,T,T,T,T,T,F,F,T,T,T,F,F,F,F,F,T,F,F] rfl rfl HT_.out ?_
           refine pU 8 (some 60) #[T,T,T,T,T,T,T,T,T,F,T,T,T,F,F,F,F,F,T,F,F] rfl rfl HT_.out ?_
           refine tU16 9 (some 61) #[T,T,T,T,T,T,T,T,T,T,T,T,T,F,F,F,F,F,T,F,F] rfl rfl HT_.out HW_.out hHeld ?_
           refine tU16 13 (some 65) #[T,T,T,T,T,T,T,T,T,T,T,T,T,T,F,F,F,F,T,F,F] rfl rfl HT_.out HW_.out hHeld ?_
           refine pU 14 (some 66) #[T,T,T,T,T,T,T,T,T,T,T,T,T,T,T,F,F,F,T,F,F] rfl rfl HT_.out ?_
           refine pU 15 (some 67) #[T,T,T,T,T,T,T,T,T,T,T,T,T,T,T,T,F,F,T,F,F] rfl rfl HT_.out ?_
           refine tU16 16 (some 68) #[T,T,T,T,T,T,T,T,T,T,T,T,T,T,T,T,T,F,T,F,F] rfl rfl HT_.out HW_.out hHeld ?_
           refine pU 17 (some 69) #[T,T,T,T,T,T,T,T,T,T,T,T,T,T,T,T,T,T,T,F,F] rfl rfl HT_.out ?_
           refine tU16 19 (some 71) #[T,T,T,T,T,T,T,T,T,T,T,T,T,T,T,T,T,T,T,T,F] rfl rfl HT_.out HW_.out hHeld ?_
           refine pU 20 (some 72) #[T,T,T,T,T,T,T,T,T,T,T,T,T,T,T,T,T,T,T,T,T] rfl rfl HT_.out ?_
           refine done_ (done_of HT_.out (by kernel_rfl)) ?_
           try go_wp2
           go_ret
           exact ⟨by first | rfl | (simp [errW_none, errW_some] <;> rfl) | (simp only [← hji82]; first | rfl | (simp [errW_none, errW_some] <;> rfl)) | (simp [*, errW_none, errW_some] <;> first | rfl | (simp [wrap64]; done)), nH1 HB.out GE264.out⟩
         · rw [if_neg c90] at H
           have c90b0 : decide (a2_0 < (wrap64 (((rd_T52 l0 (rd l1 (ji82))).f3) - ((rd_T52 l0 (rd l1 0)).f2)))) = false := decide_eq_false c90
           clear c90
           replace H := Option.bind_eq_some_iff.mp H
           obtain ⟨t277, A920, H⟩ := H
           replace H : (if t277 > a2_1 then (some 4) else ((spec_Stretched.f k2 l0 l1 a2_2).bind fun t278 => (if t278 > a2_3 then (some 5) else (some 0)))) = some r := H
           have A92 := Aside0.mk A920
           clear A920
           by_cases c93 : t277 > a2_1
           · rw [if_pos c93] at H
             have c93b0 : decide (a2_1 < t277) = true := decide_eq_true c93
             clear c93; obtain rfl := Option.some.inj H
             try go_wp2
             have n0_ := Aside0.mk (blk_drew BK264.out)
             have n1_ := Aside0.mk (below_drew1 HB.out)
             clear BK264; clear HB; have BK264 := n0_; have HB := n1_; clear n0_ n1_
             have p273 : 0 ≤ ((ji82) : Int) := of_decide_eq_true nQ
             have q273 : (ji82) < (l1.length : Int) := of_decide_eq_true nQ
             obtain ⟨ad273, e273, hx273_0⟩ := Kd.at_int HR1.out (ji82) p273 q273
             have hw273_0 := hx273_0; cases e273
             replace hx273_0 := (HB.out.cell (World.block_lt_of_cell? w _ hx273_0)).trans hx273_0
             replace p273 := eq_true p273; replace q273 := eq_true q273
             have p274 : 0 ≤ ((rd l1 (ji82)) : Int) := of_decide_eq_true nQ
             have q274 : (rd l1 (ji82)) < (l0.length : Int) := of_decide_eq_true nQ
             obtain ⟨ad274, e274, hx274_0, hx274_1, hx274_2, hx274_3, hx274_4⟩ := at_T52 HR0.out (rd l1 (ji82)) p274 q274
             have hw274_4 := hx274_4; have hw274_3 := hx274_3; have hw274_2 := hx274_2; have hw274_1 := hx274_1; have hw274_0 := hx274_0; cases e274
             replace hx274_0 := (HB.out.cell (World.block_lt_of_cell? w _ hx274_0)).trans hx274_0
             replace hx274_1 := (HB.out.cell (World.block_lt_of_cell? w _ hx274_1)).trans hx274_1
             replace hx274_2 := (HB.out.cell (World.block_lt_of_cell? w _ hx274_2)).trans hx274_2
             replace hx274_3 := (HB.out.cell (World.block_lt_of_cell? w _ hx274_3)).trans hx274_3
             replace hx274_4 := (HB.out.cell (World.block_lt_of_cell? w _ hx274_4)).trans hx274_4
             replace p274 := eq_true p274; replace q274 := eq_true q274
             have p275 : 0 ≤ (0 : Int) := (by omega)
             have q275 : 0 < (l1.length : Int) := of_decide_eq_true nQ
             obtain ⟨ad275, e275, hx275_0⟩ := Kd.at_int HR1.out 0 p275 q275
             have hw275_0 := hx275_0
             (try rw [show ((0 : Int)).toNat = 0 from rfl] at hw275_0)
             (try rw [show 0 * 1 = 0 from rfl] at hw275_0)
             (try rw [Addr.add_zero'] at hw275_0)
             obtain rfl : ad273 = ad275 := (by injection e275)
             have qi275 : (0 < l1.length) = True := eq_true (by omega)
             (try rw [show ((0 : Int)).toNat = 0 from rfl] at hx275_0)
             (try rw [Addr.add_zero'] at hx275_0)
             replace hx275_0 := (HB.out.cell (World.block_lt_of_cell? w _ hx275_0)).trans hx275_0
             replace p275 := eq_true p275; replace q275 := eq_true q275
             have p276 : 0 ≤ ((rd l1 0) : Int) := of_decide_eq_true nQ
             have q276 : (rd l1 0) < (l0.length : Int) := of_decide_eq_true nQ
             obtain ⟨ad276, e276, hx276_0, hx276_1, hx276_2, hx276_3, hx276_4⟩ := at_T52 HR0.out (rd l1 0) p276 q276
             have hw276_4 := hx276_4; have hw276_3 := hx276_3; have hw276_2 := hx276_2; have hw276_1 := hx276_1; have hw276_0 := hx276_0
             obtain rfl : ad274 = ad276 := (by injection e276)
             replace hx276_0 := (HB.out.cell (World.block_lt_of_cell? w _ hx276_0)).trans hx276_0
             replace hx276_1 := (HB.out.cell (World.block_lt_of_cell? w _ hx276_1)).trans hx276_1
             replace hx276_2 := (HB.out.cell (World.block_lt_of_cell? w _ hx276_2)).trans hx276_2
             replace hx276_3 := (HB.out.cell (World.block_lt_of_cell? w _ hx276_3)).trans hx276_3
             replace hx276_4 := (HB.out.cell (World.block_lt_of_cell? w _ hx276_4)).trans hx276_4
             replace p276 := eq_true p276; replace q276 := eq_true q276
             refine start_ (n := 21) (S := fun w' => w'.cell? ⟨gb264, 0, none⟩ = some (.int .i64 a2_0) ∧ w'.cell? ⟨gb264, 1, none⟩ = some (.int .i64 a2_1) ∧ w'.cell? ⟨gb264, 2, none⟩ = some (.int .i64 a2_2) ∧ w'.cell? ⟨gb264, 3, none⟩ = some (.int .i64 a2_3) ∧ w'.cell? (ad273.add ((ji82)).toNat) = some (.int .i64 (rd l1 (ji82))) ∧ w'.cell? (ad274.add (((rd l1 (ji82))).toNat * 5)) = some (.int .i64 ((rd_T52 l0 (rd l1 (ji82))).f0)) ∧ w'.cell? ⟨(ad274.add (((rd l1 (ji82))).toNat * 5)).block, (ad274.add (((rd l1 (ji82))).toNat * 5)).off + 1, none⟩ = some (.int .i64 ((rd_T52 l0 (rd l1 (ji82))).f1)) ∧ w'.cell? ⟨(ad274.add (((rd l1 (ji82))).toNat * 5)).block, (ad274.add (((rd l1 (ji82))).toNat * 5)).off + 2, none⟩ = some (.int .i64 ((rd_T52 l0 (rd l1 (ji82))).f2)) ∧ w'.cell? ⟨(ad274.add (((rd l1 (ji82))).toNat * 5)).block, (ad274.add (((rd l1 (ji82))).toNat * 5)).off + 3, none⟩ = some (.int .i64 ((rd_T52 l0 (rd l1 (ji82))).f3)) ∧ w'.cell? ⟨(ad274.add (((rd l1 (ji82))).toNat * 5)).block, (ad274.add (((rd l1 (ji82))).toNat * 5)).off + 4, none⟩ = some (.int .i64 ((rd_T52 l0 (rd l1 (ji82))).f4)) ∧ w'.cell? ad273 = some (.int .i64 (rd l1 0)) ∧ w'.cell? (ad274.add (((rd l1 0)).toNat * 5)) = some (.int .i64 ((rd_T52 l0 (rd l1 0)).f0)) ∧ w'.cell? ⟨(ad274.add (((rd l1 0)).toNat * 5)).block, (ad274.add (((rd l1 0)).toNat * 5)).off + 1, none⟩ = some (.int .i64 ((rd_T52 l0 (rd l1 0)).f1)) ∧ w'.cell? ⟨(ad274.add (((rd l1 0)).toNat * 5)).block, (ad274.add (((rd l1 0)).toNat * 5)).off + 2, none⟩ = some (.int .i64 ((rd_T52 l0 (rd l1 0)).f2)) ∧ w'.cell? ⟨(ad274.add (((rd l1 0)).toNat * 5)).block, (ad274.add (((rd l1 0)).toNat * 5)).off + 3, none⟩ = some (.int .i64 ((rd_T52 l0 (rd l1 0)).f3)) ∧ w'.cell? ⟨(ad274.add (((rd l1 0)).toNat * 5)).block, (ad274.add (((rd l1 0)).toNat * 5)).off + 4, none⟩ = some (.int .i64 ((rd_T52 l0 (rd l1 0)).f4))) (ds := []) #[F,F,F,F,F,F,F,F,F,F,F,F,F,F,F,F,F,F,F,F,F] (by kernel_rfl) rfl rfl ⟨(blk_cell BK264.out 0).trans rfl, (blk_cell BK264.out 1).trans rfl, (blk_cell BK264.out 2).trans rfl, (blk_cell BK264.out 3).trans rfl, (nC HB.out hw273_0 :), (nC HB.out hw274_0 :), (nC HB.out hw274_1 :), (nC HB.out hw274_2 :), (nC HB.out hw274_3 :), (nC HB.out hw274_4 :), (nC HB.out hw275_0 :), (nC HB.out hw276_0 :), (nC HB.out hw276_1 :), (nC HB.out hw276_2 :), (nC HB.out hw276_3 :), (nC HB.out hw276_4 :)⟩ (fun hHeld => ?_); refine with_tabW spec_DutyCode.tab9 spec_DutyCode.bits9 (fun HT_ HW_ => ?_)
             generalize wr.drew = w94 at BK264 HB hx273_0 hx274_0 hx274_1 hx274_2 hx274_3 hx274_4 hx275_0 hx276_0 hx276_1 hx276_2 hx276_3 hx276_4 hHeld ⊢
             refine pU 0 (some 52) #[T,F,F,F,F,F,F,F,F,F,F,F,F,F,F,F,F,F,F,F,F] rfl rfl HT_.out ?_
             refine pU 1 (some 53) #[T,T,F,F,F,F,F,F,F,F,F,F,F,F,F,F,F,F,F,F,F] rfl rfl HT_.out ?_
             refine pU 2 (some 54) #[T,T,T,F,F,F,F,F,F,F,F,F,F,F,F,F,F,F,F,F,F] rfl rfl HT_.out ?_
             refine pU 3 (some 55) #[T,T,T,T,F,F,F,F,F,F,F,F,F,F,F,F,F,F,F,F,F] rfl rfl HT_.out ?_
             refine pU 4 (some 56) #[T,T,T,T,T,F,F,F,F,F,F,F,F,F,F,F,F,F,F,F,F] rfl rfl HT_.out ?_
             refine pU 5 (some 57) #[T,T,T,T,T,T,F,F,F,F,F,F,F,F,F,F,F,F,F,F,F] rfl rfl HT_.out ?_
             refine pU 10 (some 62) #[T,T,T,T,T,T,F,F,F,F,T,F,F,F,F,F,F,F,F,F,F] rfl rfl HT_.out ?_
             refine pU 11 (some 63) #[T,T,T,T,T,T,F,F,F,F,T,T,F,F,F,F,F,F,F,F,F] rfl rfl HT_.out ?_
             refine pU 12 (some 64) #[T,T,T,T,T,T,F,F,F,F,T,T,T,F,F,F,F,F,F,F,F] rfl rfl HT_.out ?_
             refine pU 18 (some 70) #[T,T,T,T,T,T,F,F,F,F,T,T,T,F,F,F,F,F,T,F,F] rfl rfl HT_.out ?_
             refine tU16 6 (some 58) #[T,T,T,T,T,T,T,F,F,F,T,T,T,F,F,F,F,F,T,F,F] rfl rfl HT_.out HW_.out hHeld ?_
             refine pU 7 (some 59) #[T,T,T,T,T,T,T,T,F,F,T,T,T,F,F,F,F,F,T,F,F] rfl rfl HT_.out ?_
             refine pU 8 (some 60) #[T,T,T,T,T,T,T,T,T,F,T,T,T,F,F,F,F,F,T,F,F] rfl rfl HT_.out ?_
             refine tU16 9 (some 61) #[T,T,T,T,T,T,T,T,T,T,T,T,T,F,F,F,F,F,T,F,F] rfl rfl HT_.out HW_.out hHeld ?_
             refine tU16 13 (some 65) #[T,T,T,T,T,T,T,T,T,T,T,T,T,T,F,F,F,F,T,F,F] rfl rfl HT_.out HW_.out hHeld ?_
             refine pU 14 (some 66) #[T,T,T,T,T,T,T,T,T,T,T,T,T,T,T,F,F,F,T,F,F] rfl rfl HT_.out ?_
             refine pU 15 (some 67) #[T,T,T,T,T,T,T,T,T,T,T,T,T,T,T,T,F,F,T,F,F] rfl rfl HT_.out ?_
             refine tU16 16 (some 68) #[T,T,T,T,T,T,T,T,T,T,T,T,T,T,T,T,T,F,T,F,F] rfl rfl HT_.out HW_.out hHeld ?_
             refine pU 17 (some 69) #[T,T,T,T,T,T,T,T,T,T,T,T,T,T,T,T,T,T,T,F,F] rfl rfl HT_.out ?_
             refine tU16 19 (some 71) #[T,T,T,T,T,T,T,T,T,T,T,T,T,T,T,T,T,T,T,T,F] rfl rfl HT_.out HW_.out hHeld ?_
             refine pU 20 (some 72) #[T,T,T,T,T,T,T,T,T,T,T,T,T,T,T,T,T,T,T,T,T] rfl rfl HT_.out ?_
             refine done_ (done_of HT_.out (by kernel_rfl)) ?_
             try go_wp2
             have n0_ := Aside0.mk (blk_drew BK264.out)
             have n1_ := Aside0.mk (below_drew1 HB.out)
             clear BK264; clear HB; have BK264 := n0_; have HB := n1_; clear n0_ n1_
             refine start_ (n := 6) (S := fun w' => w'.cell? ⟨gb264, 0, none⟩ = some (.int .i64 a2_0) ∧ w'.cell? ⟨gb264, 1, none⟩ = some (.int .i64 a2_1) ∧ w'.cell? ⟨gb264, 2, none⟩ = some (.int .i64 a2_2) ∧ w'.cell? ⟨gb264, 3, none⟩ = some (.int .i64 a2_3)) (ds := []) #[F,F,F,F,F,F] (by kernel_rfl) rfl rfl ⟨(blk_cell BK264.out 0).trans rfl, (blk_cell BK264.out 1).trans rfl, (blk_cell BK264.out 2).trans rfl, (blk_cell BK264.out 3).trans rfl⟩ (fun hHeld => ?_)
             generalize w94.drew = w95 at BK264 HB hHeld ⊢
             refine pK 0 (some 73) #[T,F,F,F,F,F] rfl rfl ?_
             refine pK 1 (some 74) #[T,T,F,F,F,F] rfl rfl ?_
             refine pK 3 (some 76) #[T,T,F,T,F,F] rfl rfl ?_
             refine take_ (i := 4) (N := some 77) (v := ?_) (a' := ?_) #[T,T,F,T,T,F] rfl rfl (by kernel_rfl) (fun _ _ _ h => h) (Or.inl ⟨by rfl, ?_⟩) hHeld ?_ ?_
             rotate_left
             · rintro w' ⟨s0, s1, s2, s3⟩
               go_simp; with_reducible rfl
             rotate_left
             · simp only [Act.put, List.setIfInBounds_toArray, List.set_cons_zero, List.set_cons_succ, i64_w, i32_w]
               rfl
             refine one_ (i := 2) (N := some 75) #[T,T,T,T,T,F] rfl rfl (by kernel_rfl) (by decide) (fun K hK => ?_)
             refine goes_ Try.func14 (by kernel_rfl) rfl #[.slice (some ad274) l0.length c0, .slice (some ad273) l1.length c1] (by rfl) rfl rfl (by (try simp only [List.map_toArray, List.map_cons, List.map_nil]); first | done | rfl | (simp only [List.length_drop, List.length_take]; rfl)) ?_
             with_reducible refine (spec_Driven.calls k2 _ _ l0 _ _ l1 t277 _ ?side1 ?side2 ?side3 ?side4 A92.out).mono ?_
             (case side1 => repeat (first | exact (Kd.C_below HR0.out HB.out) | (with_reducible refine Kd.C_alloc ?_ _) | (with_reducible refine Kd.C_drewN ?_ _) | (with_reducible refine Kd.C_drew ?_)))
             (case side2 => exact HC0.out)
             (case side3 => repeat (first | exact (Kd.C_below HR1.out HB.out) | (with_reducible refine Kd.C_alloc ?_ _) | (with_reducible refine Kd.C_drewN ?_ _) | (with_reducible refine Kd.C_drew ?_)))
             (case side4 => exact HC1.out)
             rintro e w96 ⟨rfl, hb⟩
             refine ⟨_, rfl, ?_⟩
             have n0_ := Aside0.mk (blk_below (g := gb264) (o := .cells #[.int .i64 a2_0, .int .i64 a2_1, .int .i64 a2_2, .int .i64 a2_3] 25 (0, 0)) (nB BK264.out) hb)
             have n1_ := Aside0.mk (below_step (nH1 HB.out GE264.out) hb)
             clear BK264; clear HB; have BK264 := n0_; have HB := n1_; clear n0_ n1_; (try clear hb); (try clear hb2); (try clear hk); (try clear hi)
             refine hK.out _ _ ⟨(blk_cell BK264.out 0).trans rfl, (blk_cell BK264.out 1).trans rfl, (blk_cell BK264.out 2).trans rfl, (blk_cell BK264.out 3).trans rfl⟩ (fun hHeld => ?_)
             clear hK K
             refine norm_ (a' := ?_) ?_ ?_
             rotate_left
             · show Act.put _ (some 75) _ = _
               simp only [Act.put, List.setIfInBounds_toArray, List.set_cons_zero, List.set_cons_succ, i64_w, i32_w]
               rfl
             refine pK 5 (some 78) #[T,T,T,T,T,T] rfl rfl ?_
             refine done_ (by kernel_rfl) ?_
             try go_wp2
             go_ret
             exact ⟨by first | rfl | (simp [errW_none, errW_some] <;> rfl) | (simp only [← hji82]; first | rfl | (simp [errW_none, errW_some] <;> rfl)) | (simp [*, errW_none, errW_some] <;> first | rfl | (simp [wrap64]; done)), nH1 HB.out GE264.out⟩
           · rw [if_neg c93] at H
             have c93b0 : decide (a2_1 < t277) = false := decide_eq_false c93
             clear c93
             replace H := Option.bind_eq_some_iff.mp H
             obtain ⟨t278, A970, H⟩ := H
             replace H : (if t278 > a2_3 then (some 5) else (some 0)) = some r := H
             have A97 := Aside0.mk A970
             clear A970
             by_cases c98 : t278 > a2_3
             · rw [if_pos c98] at H
               have c98b0 : decide (a2_3 < t278) = true := decide_eq_true c98
               clear c98; obtain rfl := Option.some.inj H
               try go_wp2
               have n0_ := Aside0.mk (blk_drew BK264.out)
               have n1_ := Aside0.mk (below_drew1 HB.out)
               clear BK264; clear HB; have BK264 := n0_; have HB := n1_; clear n0_ n1_
               have p273 : 0 ≤ ((ji82) : Int) := of_decide_eq_true nQ
               have q273 : (ji82) < (l1.length : Int) := of_decide_eq_true nQ
               obtain ⟨ad273, e273, hx273_0⟩ := Kd.at_int HR1.out (ji82) p273 q273
               have hw273_0 := hx273_0; cases e273
               replace hx273_0 := (HB.out.cell (World.block_lt_of_cell? w _ hx273_0)).trans hx273_0
               replace p273 := eq_true p273; replace q273 := eq_true q273
               have p274 : 0 ≤ ((rd l1 (ji82)) : Int) := of_decide_eq_true nQ
               have q274 : (rd l1 (ji82)) < (l0.length : Int) := of_decide_eq_true nQ
               obtain ⟨ad274, e274, hx274_0, hx274_1, hx274_2, hx274_3, hx274_4⟩ := at_T52 HR0.out (rd l1 (ji82)) p274 q274
               have hw274_4 := hx274_4; have hw274_3 := hx274_3; have hw274_2 := hx274_2; have hw274_1 := hx274_1; have hw274_0 := hx274_0; cases e274
               replace hx274_0 := (HB.out.cell (World.block_lt_of_cell? w _ hx274_0)).trans hx274_0
               replace hx274_1 := (HB.out.cell (World.block_lt_of_cell? w _ hx274_1)).trans hx274_1
               replace hx274_2 := (HB.out.cell (World.block_lt_of_cell? w _ hx274_2)).trans hx274_2
               replace hx274_3 := (HB.out.cell (World.block_lt_of_cell? w _ hx274_3)).trans hx274_3
               replace hx274_4 := (HB.out.cell (World.block_lt_of_cell? w _ hx274_4)).trans hx274_4
               replace p274 := eq_true p274; replace q274 := eq_true q274
               have p275 : 0 ≤ (0 : Int) := (by omega)
               have q275 : 0 < (l1.length : Int) := of_decide_eq_true nQ
               obtain ⟨ad275, e275, hx275_0⟩ := Kd.at_int HR1.out 0 p275 q275
               have hw275_0 := hx275_0
               (try rw [show ((0 : Int)).toNat = 0 from rfl] at hw275_0)
               (try rw [show 0 * 1 = 0 from rfl] at hw275_0)
               (try rw [Addr.add_zero'] at hw275_0)
               obtain rfl : ad273 = ad275 := (by injection e275)
               have qi275 : (0 < l1.length) = True := eq_true (by omega)
               (try rw [show ((0 : Int)).toNat = 0 from rfl] at hx275_0)
               (try rw [Addr.add_zero'] at hx275_0)
               replace hx275_0 := (HB.out.cell (World.block_lt_of_cell? w _ hx275_0)).trans hx275_0
               replace p275 := eq_true p275; replace q275 := eq_true q275
               have p276 : 0 ≤ ((rd l1 0) : Int) := of_decide_eq_true nQ
               have q276 : (rd l1 0) < (l0.length : Int) := of_decide_eq_true nQ
               obtain ⟨ad276, e276, hx276_0, hx276_1, hx276_2, hx276_3, hx276_4⟩ := at_T52 HR0.out (rd l1 0) p276 q276
               have hw276_4 := hx276_4; have hw276_3 := hx276_3; have hw276_2 := hx276_2; have hw276_1 := hx276_1; have hw276_0 := hx276_0
               obtain rfl : ad274 = ad276 := (by injection e276)
               replace hx276_0 := (HB.out.cell (World.block_lt_of_cell? w _ hx276_0)).trans hx276_0
               replace hx276_1 := (HB.out.cell (World.block_lt_of_cell? w _ hx276_1)).trans hx276_1
               replace hx276_2 := (HB.out.cell (World.block_lt_of_cell? w _ hx276_2)).trans hx276_2
               replace hx276_3 := (HB.out.cell (World.block_lt_of_cell? w _ hx276_3)).trans hx276_3
               replace hx276_4 := (HB.out.cell (World.block_lt_of_cell? w _ hx276_4)).trans hx276_4
               replace p276 := eq_true p276; replace q276 := eq_true q276
               refine start_ (n := 21) (S := fun w' => w'.cell? ⟨gb264, 0, none⟩ = some (.int .i64 a2_0) ∧ w'.cell? ⟨gb264, 1, none⟩ = some (.int .i64 a2_1) ∧ w'.cell? ⟨gb264, 2, none⟩ = some (.int .i64 a2_2) ∧ w'.cell? ⟨gb264, 3, none⟩ = some (.int .i64 a2_3) ∧ w'.cell? (ad273.add ((ji82)).toNat) = some (.int .i64 (rd l1 (ji82))) ∧ w'.cell? (ad274.add (((rd l1 (ji82))).toNat * 5)) = some (.int .i64 ((rd_T52 l0 (rd l1 (ji82))).f0)) ∧ w'.cell? ⟨(ad274.add (((rd l1 (ji82))).toNat * 5)).block, (ad274.add (((rd l1 (ji82))).toNat * 5)).off + 1, none⟩ = some (.int .i64 ((rd_T52 l0 (rd l1 (ji82))).f1)) ∧ w'.cell? ⟨(ad274.add (((rd l1 (ji82))).toNat * 5)).block, (ad274.add (((rd l1 (ji82))).toNat * 5)).off + 2, none⟩ = some (.int .i64 ((rd_T52 l0 (rd l1 (ji82))).f2)) ∧ w'.cell? ⟨(ad274.add (((rd l1 (ji82))).toNat * 5)).block, (ad274.add (((rd l1 (ji82))).toNat * 5)).off + 3, none⟩ = some (.int .i64 ((rd_T52 l0 (rd l1 (ji82))).f3)) ∧ w'.cell? ⟨(ad274.add (((rd l1 (ji82))).toNat * 5)).block, (ad274.add (((rd l1 (ji82))).toNat * 5)).off + 4, none⟩ = some (.int .i64 ((rd_T52 l0 (rd l1 (ji82))).f4)) ∧ w'.cell? ad273 = some (.int .i64 (rd l1 0)) ∧ w'.cell? (ad274.add (((rd l1 0)).toNat * 5)) = some (.int .i64 ((rd_T52 l0 (rd l1 0)).f0)) ∧ w'.cell? ⟨(ad274.add (((rd l1 0)).toNat * 5)).block, (ad274.add (((rd l1 0)).toNat * 5)).off + 1, none⟩ = some (.int .i64 ((rd_T52 l0 (rd l1 0)).f1)) ∧ w'.cell? ⟨(ad274.add (((rd l1 0)).toNat * 5)).block, (ad274.add (((rd l1 0)).toNat * 5)).off + 2, none⟩ = some (.int .i64 ((rd_T52 l0 (rd l1 0)).f2)) ∧ w'.cell? ⟨(ad274.add (((rd l1 0)).toNat * 5)).block, (ad274.add (((rd l1 0)).toNat * 5)).off + 3, none⟩ = some (.int .i64 ((rd_T52 l0 (rd l1 0)).f3)) ∧ w'.cell? ⟨(ad274.add (((rd l1 0)).toNat * 5)).block, (ad274.add (((rd l1 0)).toNat * 5)).off + 4, none⟩ = some (.int .i64 ((rd_T52 l0 (rd l1 0)).f4))) (ds := []) #[F,F,F,F,F,F,F,F,F,F,F,F,F,F,F,F,F,F,F,F,F] (by kernel_rfl) rfl rfl ⟨(blk_cell BK264.out 0).trans rfl, (blk_cell BK264.out 1).trans rfl, (blk_cell BK264.out 2).trans rfl, (blk_cell BK264.out 3).trans rfl, (nC HB.out hw273_0 :), (nC HB.out hw274_0 :), (nC HB.out hw274_1 :), (nC HB.out hw274_2 :), (nC HB.out hw274_3 :), (nC HB.out hw274_4 :), (nC HB.out hw275_0 :), (nC HB.out hw276_0 :), (nC HB.out hw276_1 :), (nC HB.out hw276_2 :), (nC HB.out hw276_3 :), (nC HB.out hw276_4 :)⟩ (fun hHeld => ?_); refine with_tabW spec_DutyCode.tab9 spec_DutyCode.bits9 (fun HT_ HW_ => ?_)
               generalize wr.drew = w99 at BK264 HB hx273_0 hx274_0 hx274_1 hx274_2 hx274_3 hx274_4 hx275_0 hx276_0 hx276_1 hx276_2 hx276_3 hx276_4 hHeld ⊢
               refine pU 0 (some 52) #[T,F,F,F,F,F,F,F,F,F,F,F,F,F,F,F,F,F,F,F,F] rfl rfl HT_.out ?_
               refine pU 1 (some 53) #[T,T,F,F,F,F,F,F,F,F,F,F,F,F,F,F,F,F,F,F,F] rfl rfl HT_.out ?_
               refine pU 2 (some 54) #[T,T,T,F,F,F,F,F,F,F,F,F,F,F,F,F,F,F,F,F,F] rfl rfl HT_.out ?_
               refine pU 3 (some 55) #[T,T,T,T,F,F,F,F,F,F,F,F,F,F,F,F,F,F,F,F,F] rfl rfl HT_.out ?_
               refine pU 4 (some 56) #[T,T,T,T,T,F,F,F,F,F,F,F,F,F,F,F,F,F,F,F,F] rfl rfl HT_.out ?_
               refine pU 5 (some 57) #[T,T,T,T,T,T,F,F,F,F,F,F,F,F,F,F,F,F,F,F,F] rfl rfl HT_.out ?_
               refine pU 10 (some 62) #[T,T,T,T,T,T,F,F,F,F,T,F,F,F,F,F,F,F,F,F,F] rfl rfl HT_.out ?_
               refine pU 11 (some 63) #[T,T,T,T,T,T,F,F,F,F,T,T,F,F,F,F,F,F,F,F,F] rfl rfl HT_.out ?_
               refine pU 12 (some 64) #[T,T,T,T,T,T,F,F,F,F,T,T,T,F,F,F,F,F,F,F,F] rfl rfl HT_.out ?_
               refine pU 18 (some 70) #[T,T,T,T,T,T,F,F,F,F,T,T,T,F,F,F,F,F,T,F,F] rfl rfl HT_.out ?_
               refine tU16 6 (some 58) #[T,T,T,T,T,T,T,F,F,F,T,T,T,F,F,F,F,F,T,F,F] rfl rfl HT_.out HW_.out hHeld ?_
               refine pU 7 (some 59) #[T,T,T,T,T,T,T,T,F,F,T,T,T,F,F,F,F,F,T,F,F] rfl rfl HT_.out ?_
               refine pU 8 (some 60) #[T,T,T,T,T,T,T,T,T,F,T,T,T,F,F,F,F,F,T,F,F] rfl rfl HT_.out ?_
               refine tU16 9 (some 61) #[T,T,T,T,T,T,T,T,T,T,T,T,T,F,F,F,F,F,T,F,F] rfl rfl HT_.out HW_.out hHeld ?_
               refine tU16 13 (some 65) #[T,T,T,T,T,T,T,T,T,T,T,T,T,T,F,F,F,F,T,F,F] rfl rfl HT_.out HW_.out hHeld ?_
               refine pU 14 (some 66) #[T,T,T,T,T,T,T,T,T,T,T,T,T,T,T,F,F,F,T,F,F] rfl rfl HT_.out ?_
               refine pU 15 (some 67) #[T,T,T,T,T,T,T,T,T,T,T,T,T,T,T,T,F,F,T,F,F] rfl rfl HT_.out ?_
               refine tU16 16 (some 68) #[T,T,T,T,T,T,T,T,T,T,T,T,T,T,T,T,T,F,T,F,F] rfl rfl HT_.out HW_.out hHeld ?_
               refine pU 17 (some 69) #[T,T,T,T,T,T,T,T,T,T,T,T,T,T,T,T,T,T,T,F,F] rfl rfl HT_.out ?_
               refine tU16 19 (some 71) #[T,T,T,T,T,T,T,T,T,T,T,T,T,T,T,T,T,T,T,T,F] rfl rfl HT_.out HW_.out hHeld ?_
               refine pU 20 (some 72) #[T,T,T,T,T,T,T,T,T,T,T,T,T,T,T,T,T,T,T,T,T] rfl rfl HT_.out ?_
               refine done_ (done_of HT_.out (by kernel_rfl)) ?_
               try go_wp2
               have n0_ := Aside0.mk (blk_drew BK264.out)
               have n1_ := Aside0.mk (below_drew1 HB.out)
               clear BK264; clear HB; have BK264 := n0_; have HB := n1_; clear n0_ n1_
               refine start_ (n := 6) (S := fun w' => w'.cell? ⟨gb264, 0, none⟩ = some (.int .i64 a2_0) ∧ w'.cell? ⟨gb264, 1, none⟩ = some (.int .i64 a2_1) ∧ w'.cell? ⟨gb264, 2, none⟩ = some (.int .i64 a2_2) ∧ w'.cell? ⟨gb264, 3, none⟩ = some (.int .i64 a2_3)) (ds := []) #[F,F,F,F,F,F] (by kernel_rfl) rfl rfl ⟨(blk_cell BK264.out 0).trans rfl, (blk_cell BK264.out 1).trans rfl, (blk_cell BK264.out 2).trans rfl, (blk_cell BK264.out 3).trans rfl⟩ (fun hHeld => ?_)
               generalize w99.drew = w100 at BK264 HB hHeld ⊢
               refine pK 0 (some 73) #[T,F,F,F,F,F] rfl rfl ?_
               refine pK 1 (some 74) #[T,T,F,F,F,F] rfl rfl ?_
               refine pK 3 (some 76) #[T,T,F,T,F,F] rfl rfl ?_
               refine take_ (i := 4) (N := some 77) (v := ?_) (a' := ?_) #[T,T,F,T,T,F] rfl rfl (by kernel_rfl) (fun _ _ _ h => h) (Or.inl ⟨by rfl, ?_⟩) hHeld ?_ ?_
               rotate_left
               · rintro w' ⟨s0, s1, s2, s3⟩
                 go_simp; with_reducible rfl
               rotate_left
               · simp only [Act.put, List.setIfInBounds_toArray, List.set_cons_zero, List.set_cons_succ, i64_w, i32_w]
                 rfl
               refine one_ (i := 2) (N := some 75) #[T,T,T,T,T,F] rfl rfl (by kernel_rfl) (by decide) (fun K hK => ?_)
               refine goes_ Try.func14 (by kernel_rfl) rfl #[.slice (some ad274) l0.length c0, .slice (some ad273) l1.length c1] (by rfl) rfl rfl (by (try simp only [List.map_toArray, List.map_cons, List.map_nil]); first | done | rfl | (simp only [List.length_drop, List.length_take]; rfl)) ?_
               with_reducible refine (spec_Driven.calls k2 _ _ l0 _ _ l1 t277 _ ?side1 ?side2 ?side3 ?side4 A92.out).mono ?_
               (case side1 => repeat (first | exact (Kd.C_below HR0.out HB.out) | (with_reducible refine Kd.C_alloc ?_ _) | (with_reducible refine Kd.C_drewN ?_ _) | (with_reducible refine Kd.C_drew ?_)))
               (case side2 => exact HC0.out)
               (case side3 => repeat (first | exact (Kd.C_below HR1.out HB.out) | (with_reducible refine Kd.C_alloc ?_ _) | (with_reducible refine Kd.C_drewN ?_ _) | (with_reducible refine Kd.C_drew ?_)))
               (case side4 => exact HC1.out)
               rintro e w101 ⟨rfl, hb⟩
               refine ⟨_, rfl, ?_⟩
               have n0_ := Aside0.mk (blk_below (g := gb264) (o := .cells #[.int .i64 a2_0, .int .i64 a2_1, .int .i64 a2_2, .int .i64 a2_3] 25 (0, 0)) (nB BK264.out) hb)
               have n1_ := Aside0.mk (below_step (nH1 HB.out GE264.out) hb)
               clear BK264; clear HB; have BK264 := n0_; have HB := n1_; clear n0_ n1_; (try clear hb); (try clear hb2); (try clear hk); (try clear hi)
               refine hK.out _ _ ⟨(blk_cell BK264.out 0).trans rfl, (blk_cell BK264.out 1).trans rfl, (blk_cell BK264.out 2).trans rfl, (blk_cell BK264.out 3).trans rfl⟩ (fun hHeld => ?_)
               clear hK K
               refine norm_ (a' := ?_) ?_ ?_
               rotate_left
               · show Act.put _ (some 75) _ = _
                 simp only [Act.put, List.setIfInBounds_toArray, List.set_cons_zero, List.set_cons_succ, i64_w, i32_w]
                 rfl
               refine pK 5 (some 78) #[T,T,T,T,T,T] rfl rfl ?_
               refine done_ (by kernel_rfl) ?_
               try go_wp2
               have n0_ := Aside0.mk (blk_drew BK264.out)
               have n1_ := Aside0.mk (below_drew1 HB.out)
               clear BK264; clear HB; have BK264 := n0_; have HB := n1_; clear n0_ n1_
               refine start_ (n := 8) (S := fun w' => w'.cell? ⟨gb264, 0, none⟩ = some (.int .i64 a2_0) ∧ w'.cell? ⟨gb264, 1, none⟩ = some (.int .i64 a2_1) ∧ w'.cell? ⟨gb264, 2, none⟩ = some (.int .i64 a2_2) ∧ w'.cell? ⟨gb264, 3, none⟩ = some (.int .i64 a2_3)) (ds := []) #[F,F,F,F,F,F,F,F] (by kernel_rfl) rfl rfl ⟨(blk_cell BK264.out 0).trans rfl, (blk_cell BK264.out 1).trans rfl, (blk_cell BK264.out 2).trans rfl, (blk_cell BK264.out 3).trans rfl⟩ (fun hHeld => ?_); refine with_tabW spec_DutyCode.tab13 spec_DutyCode.bits13 (fun HT_ HW_ => ?_)
               generalize w101.drew = w102 at BK264 HB hHeld ⊢
               refine pU 0 (some 79) #[T,F,F,F,F,F,F,F] rfl rfl HT_.out ?_
               refine pU 1 (some 80) #[T,T,F,F,F,F,F,F] rfl rfl HT_.out ?_
               refine pU 2 (some 81) #[T,T,T,F,F,F,F,F] rfl rfl HT_.out ?_
               refine pU 5 (some 84) #[T,T,T,F,F,T,F,F] rfl rfl HT_.out ?_
               refine tU4 3 (some 82) #[T,T,T,T,F,T,F,F] rfl rfl HT_.out HW_.out hHeld ?_
               refine tU4 6 (some 85) #[T,T,T,T,F,T,T,F] rfl rfl HT_.out HW_.out hHeld ?_
               refine one_ (i := 4) (N := some 83) #[T,T,T,T,T,T,T,F] rfl rfl (one_of HT_.out (by kernel_rfl)) (by decide) (fun K hK => ?_)
               refine goes_ Try.func20 (by kernel_rfl) rfl #[.slice (some ad274) l0.length c0, .slice (some ad273) l1.length c1, .int .i64 a2_2] (by rfl) rfl rfl (by (try simp only [List.map_toArray, List.map_cons, List.map_nil]); first | done | rfl | (simp only [List.length_drop, List.length_take]; rfl)) ?_
               with_reducible refine (spec_Stretched.calls k2 _ _ l0 _ _ l1 a2_2 t278 _ ?side1 ?side2 ?side3 ?side4 A97.out).mono ?_
               (case side1 => repeat (first | exact (Kd.C_below HR0.out HB.out) | (with_reducible refine Kd.C_alloc ?_ _) | (with_reducible refine Kd.C_drewN ?_ _) | (with_reducible refine Kd.C_drew ?_)))
               (case side2 => exact HC0.out)
               (case side3 => repeat (first | exact (Kd.C_below HR1.out HB.out) | (with_reducible refine Kd.C_alloc ?_ _) | (with_reducible refine Kd.C_drewN ?_ _) | (with_reducible refine Kd.C_drew ?_)))
               (case side4 => exact HC1.out)
               rintro e w103 ⟨rfl, hb⟩
               refine ⟨_, rfl, ?_⟩
               have n0_ := Aside0.mk (blk_below (g := gb264) (o := .cells #[.int .i64 a2_0, .int .i64 a2_1, .int .i64 a2_2, .int .i64 a2_3] 25 (0, 0)) (nB BK264.out) hb)
               have n1_ := Aside0.mk (below_step (nH1 HB.out GE264.out) hb)
               clear BK264; clear HB; have BK264 := n0_; have HB := n1_; clear n0_ n1_; (try clear hb); (try clear hb2); (try clear hk); (try clear hi)
               refine hK.out _ _ ⟨(blk_cell BK264.out 0).trans rfl, (blk_cell BK264.out 1).trans rfl, (blk_cell BK264.out 2).trans rfl, (blk_cell BK264.out 3).trans rfl⟩ (fun hHeld => ?_)
               clear hK K
               refine norm_ (a' := ?_) ?_ ?_
               rotate_left
               · show Act.put _ (some 83) _ = _
                 simp only [Act.put, List.setIfInBounds_toArray, List.set_cons_zero, List.set_cons_succ, i64_w, i32_w]
                 rfl
               refine pU 7 (some 86) #[T,T,T,T,T,T,T,T] rfl rfl HT_.out ?_
               refine done_ (done_of HT_.out (by kernel_rfl)) ?_
               try go_wp2
               go_ret
               exact ⟨by first | rfl | (simp [errW_none, errW_some] <;> rfl) | (simp only [← hji82]; first | rfl | (simp [errW_none, errW_some] <;> rfl)) | (simp [*, errW_none, errW_some] <;> first | rfl | (simp [wrap64]; done)), nH1 HB.out GE264.out⟩
             · rw [if_neg c98] at H
               have c98b0 : decide (a2_3 < t278) = false := decide_eq_false c98
               clear c98; obtain rfl := Option.some.inj H
               try go_wp2
               have n0_ := Aside0.mk (blk_drew BK264.out)
               have n1_ := Aside0.mk (below_drew1 HB.out)
               clear BK264; clear HB; have BK264 := n0_; have HB := n1_; clear n0_ n1_
               have p273 : 0 ≤ ((ji82) : Int) := of_decide_eq_true nQ
               have q273 : (ji82) < (l1.length : Int) := of_decide_eq_true nQ
               obtain ⟨ad273, e273, hx273_0⟩ := Kd.at_int HR1.out (ji82) p273 q273
               have hw273_0 := hx273_0; cases e273
               replace hx273_0 := (HB.out.cell (World.block_lt_of_cell? w _ hx273_0)).trans hx273_0
               replace p273 := eq_true p273; replace q273 := eq_true q273
               have p274 : 0 ≤ ((rd l1 (ji82)) : Int) := of_decide_eq_true nQ
               have q274 : (rd l1 (ji82)) < (l0.length : Int) := of_decide_eq_true nQ
               obtain ⟨ad274, e274, hx274_0, hx274_1, hx274_2, hx274_3, hx274_4⟩ := at_T52 HR0.out (rd l1 (ji82)) p274 q274
               have hw274_4 := hx274_4; have hw274_3 := hx274_3; have hw274_2 := hx274_2; have hw274_1 := hx274_1; have hw274_0 := hx274_0; cases e274
               replace hx274_0 := (HB.out.cell (World.block_lt_of_cell? w _ hx274_0)).trans hx274_0
               replace hx274_1 := (HB.out.cell (World.block_lt_of_cell? w _ hx274_1)).trans hx274_1
               replace hx274_2 := (HB.out.cell (World.block_lt_of_cell? w _ hx274_2)).trans hx274_2
               replace hx274_3 := (HB.out.cell (World.block_lt_of_cell? w _ hx274_3)).trans hx274_3
               replace hx274_4 := (HB.out.cell (World.block_lt_of_cell? w _ hx274_4)).trans hx274_4
               replace p274 := eq_true p274; replace q274 := eq_true q274
               have p275 : 0 ≤ (0 : Int) := (by omega)
               have q275 : 0 < (l1.length : Int) := of_decide_eq_true nQ
               obtain ⟨ad275, e275, hx275_0⟩ := Kd.at_int HR1.out 0 p275 q275
               have hw275_0 := hx275_0
               (try rw [show ((0 : Int)).toNat = 0 from rfl] at hw275_0)
               (try rw [show 0 * 1 = 0 from rfl] at hw275_0)
               (try rw [Addr.add_zero'] at hw275_0)
               obtain rfl : ad273 = ad275 := (by injection e275)
               have qi275 : (0 < l1.length) = True := eq_true (by omega)
               (try rw [show ((0 : Int)).toNat = 0 from rfl] at hx275_0)
               (try rw [Addr.add_zero'] at hx275_0)
               replace hx275_0 := (HB.out.cell (World.block_lt_of_cell? w _ hx275_0)).trans hx275_0
               replace p275 := eq_true p275; replace q275 := eq_true q275
               have p276 : 0 ≤ ((rd l1 0) : Int) := of_decide_eq_true nQ
               have q276 : (rd l1 0) < (l0.length : Int) := of_decide_eq_true nQ
               obtain ⟨ad276, e276, hx276_0, hx276_1, hx276_2, hx276_3, hx276_4⟩ := at_T52 HR0.out (rd l1 0) p276 q276
               have hw276_4 := hx276_4; have hw276_3 := hx276_3; have hw276_2 := hx276_2; have hw276_1 := hx276_1; have hw276_0 := hx276_0
               obtain rfl : ad274 = ad276 := (by injection e276)
               replace hx276_0 := (HB.out.cell (World.block_lt_of_cell? w _ hx276_0)).trans hx276_0
               replace hx276_1 := (HB.out.cell (World.block_lt_of_cell? w _ hx276_1)).trans hx276_1
               replace hx276_2 := (HB.out.cell (World.block_lt_of_cell? w _ hx276_2)).trans hx276_2
               replace hx276_3 := (HB.out.cell (World.block_lt_of_cell? w _ hx276_3)).trans hx276_3
               replace hx276_4 := (HB.out.cell (World.block_lt_of_cell? w _ hx276_4)).trans hx276_4
               replace p276 := eq_true p276; replace q276 := eq_true q276
               refine start_ (n := 21) (S := fun w' => w'.cell? ⟨gb264, 0, none⟩ = some (.int .i64 a2_0) ∧ w'.cell? ⟨gb264, 1, none⟩ = some (.int .i64 a2_1) ∧ w'.cell? ⟨gb264, 2, none⟩ = some (.int .i64 a2_2) ∧ w'.cell? ⟨gb264, 3, none⟩ = some (.int .i64 a2_3) ∧ w'.cell? (ad273.add ((ji82)).toNat) = some (.int .i64 (rd l1 (ji82))) ∧ w'.cell? (ad274.add (((rd l1 (ji82))).toNat * 5)) = some (.int .i64 ((rd_T52 l0 (rd l1 (ji82))).f0)) ∧ w'.cell? ⟨(ad274.add (((rd l1 (ji82))).toNat * 5)).block, (ad274.add (((rd l1 (ji82))).toNat * 5)).off + 1, none⟩ = some (.int .i64 ((rd_T52 l0 (rd l1 (ji82))).f1)) ∧ w'.cell? ⟨(ad274.add (((rd l1 (ji82))).toNat * 5)).block, (ad274.add (((rd l1 (ji82))).toNat * 5)).off + 2, none⟩ = some (.int .i64 ((rd_T52 l0 (rd l1 (ji82))).f2)) ∧ w'.cell? ⟨(ad274.add (((rd l1 (ji82))).toNat * 5)).block, (ad274.add (((rd l1 (ji82))).toNat * 5)).off + 3, none⟩ = some (.int .i64 ((rd_T52 l0 (rd l1 (ji82))).f3)) ∧ w'.cell? ⟨(ad274.add (((rd l1 (ji82))).toNat * 5)).block, (ad274.add (((rd l1 (ji82))).toNat * 5)).off + 4, none⟩ = some (.int .i64 ((rd_T52 l0 (rd l1 (ji82))).f4)) ∧ w'.cell? ad273 = some (.int .i64 (rd l1 0)) ∧ w'.cell? (ad274.add (((rd l1 0)).toNat * 5)) = some (.int .i64 ((rd_T52 l0 (rd l1 0)).f0)) ∧ w'.cell? ⟨(ad274.add (((rd l1 0)).toNat * 5)).block, (ad274.add (((rd l1 0)).toNat * 5)).off + 1, none⟩ = some (.int .i64 ((rd_T52 l0 (rd l1 0)).f1)) ∧ w'.cell? ⟨(ad274.add (((rd l1 0)).toNat * 5)).block, (ad274.add (((rd l1 0)).toNat * 5)).off + 2, none⟩ = some (.int .i64 ((rd_T52 l0 (rd l1 0)).f2)) ∧ w'.cell? ⟨(ad274.add (((rd l1 0)).toNat * 5)).block, (ad274.add (((rd l1 0)).toNat * 5)).off + 3, none⟩ = some (.int .i64 ((rd_T52 l0 (rd l1 0)).f3)) ∧ w'.cell? ⟨(ad274.add (((rd l1 0)).toNat * 5)).block, (ad274.add (((rd l1 0)).toNat * 5)).off + 4, none⟩ = some (.int .i64 ((rd_T52 l0 (rd l1 0)).f4))) (ds := []) #[F,F,F,F,F,F,F,F,F,F,F,F,F,F,F,F,F,F,F,F,F] (by kernel_rfl) rfl rfl ⟨(blk_cell BK264.out 0).trans rfl, (blk_cell BK264.out 1).trans rfl, (blk_cell BK264.out 2).trans rfl, (blk_cell BK264.out 3).trans rfl, (nC HB.out hw273_0 :), (nC HB.out hw274_0 :), (nC HB.out hw274_1 :), (nC HB.out hw274_2 :), (nC HB.out hw274_3 :), (nC HB.out hw274_4 :), (nC HB.out hw275_0 :), (nC HB.out hw276_0 :), (nC HB.out hw276_1 :), (nC HB.out hw276_2 :), (nC HB.out hw276_3 :), (nC HB.out hw276_4 :)⟩ (fun hHeld => ?_); refine with_tabW spec_DutyCode.tab9 spec_DutyCode.bits9 (fun HT_ HW_ => ?_)
               generalize wr.drew = w104 at BK264 HB hx273_0 hx274_0 hx274_1 hx274_2 hx274_3 hx274_4 hx275_0 hx276_0 hx276_1 hx276_2 hx276_3 hx276_4 hHeld ⊢
               refine pU 0 (some 52) #[T,F,F,F,F,F,F,F,F,F,F,F,F,F,F,F,F,F,F,F,F] rfl rfl HT_.out ?_
               refine pU 1 (some 53) #[T,T,F,F,F,F,F,F,F,F,F,F,F,F,F,F,F,F,F,F,F] rfl rfl HT_.out ?_
               refine pU 2 (some 54) #[T,T,T,F,F,F,F,F,F,F,F,F,F,F,F,F,F,F,F,F,F] rfl rfl HT_.out ?_
               refine pU 3 (some 55) #[T,T,T,T,F,F,F,F,F,F,F,F,F,F,F,F,F,F,F,F,F] rfl rfl HT_.out ?_
               refine pU 4 (some 56) #[T,T,T,T,T,F,F,F,F,F,F,F,F,F,F,F,F,F,F,F,F] rfl rfl HT_.out ?_
               refine pU 5 (some 57) #[T,T,T,T,T,T,F,F,F,F,F,F,F,F,F,F,F,F,F,F,F] rfl rfl HT_.out ?_
               refine pU 10 (some 62) #[T,T,T,T,T,T,F,F,F,F,T,F,F,F,F,F,F,F,F,F,F] rfl rfl HT_.out ?_
               refine pU 11 (some 63) #[T,T,T,T,T,T,F,F,F,F,T,T,F,F,F,F,F,F,F,F,F] rfl rfl HT_.out ?_
               refine pU 12 (some 64) #[T,T,T,T,T,T,F,F,F,F,T,T,T,F,F,F,F,F,F,F,F] rfl rfl HT_.out ?_
               refine pU 18 (some 70) #[T,T,T,T,T,T,F,F,F,F,T,T,T,F,F,F,F,F,T,F,F] rfl rfl HT_.out ?_
               refine tU16 6 (some 58) #[T,T,T,T,T,T,T,F,F,F,T,T,T,F,F,F,F,F,T,F,F] rfl rfl HT_.out HW_.out hHeld ?_
               refine pU 7 (some 59) #[T,T,T,T,T,T,T,T,F,F,T,T,T,F,F,F,F,F,T,F,F] rfl rfl HT_.out ?_
               refine pU 8 (some 60) #[T,T,T,T,T,T,T,T,T,F,T,T,T,F,F,F,F,F,T,F,F] rfl rfl HT_.out ?_
               refine tU16 9 (some 61) #[T,T,T,T,T,T,T,T,T,T,T,T,T,F,F,F,F,F,T,F,F] rfl rfl HT_.out HW_.out hHeld ?_
               refine tU16 13 (some 65) #[T,T,T,T,T,T,T,T,T,T,T,T,T,T,F,F,F,F,T,F,F] rfl rfl HT_.out HW_.out hHeld ?_
               refine pU 14 (some 66) #[T,T,T,T,T,T,T,T,T,T,T,T,T,T,T,F,F,F,T,F,F] rfl rfl HT_.out ?_
               refine pU 15 (some 67) #[T,T,T,T,T,T,T,T,T,T,T,T,T,T,T,T,F,F,T,F,F] rfl rfl HT_.out ?_
               refine tU16 16 (some 68) #[T,T,T,T,T,T,T,T,T,T,T,T,T,T,T,T,T,F,T,F,F] rfl rfl HT_.out HW_.out hHeld ?_
               refine pU 17 (some 69) #[T,T,T,T,T,T,T,T,T,T,T,T,T,T,T,T,T,T,T,F,F] rfl rfl HT_.out ?_
               refine tU16 19 (some 71) #[T,T,T,T,T,T,T,T,T,T,T,T,T,T,T,T,T,T,T,T,F] rfl rfl HT_.out HW_.out hHeld ?_
               refine pU 20 (some 72) #[T,T,T,T,T,T,T,T,T,T,T,T,T,T,T,T,T,T,T,T,T] rfl rfl HT_.out ?_
               refine done_ (done_of HT_.out (by kernel_rfl)) ?_
               try go_wp2
               have n0_ := Aside0.mk (blk_drew BK264.out)
               have n1_ := Aside0.mk (below_drew1 HB.out)
               clear BK264; clear HB; have BK264 := n0_; have HB := n1_; clear n0_ n1_
               refine start_ (n := 6) (S := fun w' => w'.cell? ⟨gb264, 0, none⟩ = some (.int .i64 a2_0) ∧ w'.cell? ⟨gb264, 1, none⟩ = some (.int .i64 a2_1) ∧ w'.cell? ⟨gb264, 2, none⟩ = some (.int .i64 a2_2) ∧ w'.cell? ⟨gb264, 3, none⟩ = some (.int .i64 a2_3)) (ds := []) #[F,F,F,F,F,F] (by kernel_rfl) rfl rfl ⟨(blk_cell BK264.out 0).trans rfl, (blk_cell BK264.out 1).trans rfl, (blk_cell BK264.out 2).trans rfl, (blk_cell BK264.out 3).trans rfl⟩ (fun hHeld => ?_)
               generalize w104.drew = w105 at BK264 HB hHeld ⊢
               refine pK 0 (some 73) #[T,F,F,F,F,F] rfl rfl ?_
               refine pK 1 (some 74) #[T,T,F,F,F,F] rfl rfl ?_
               refine pK 3 (some 76) #[T,T,F,T,F,F] rfl rfl ?_
               refine take_ (i := 4) (N := some 77) (v := ?_) (a' := ?_) #[T,T,F,T,T,F] rfl rfl (by kernel_rfl) (fun _ _ _ h => h) (Or.inl ⟨by rfl, ?_⟩) hHeld ?_ ?_
               rotate_left
               · rintro w' ⟨s0, s1, s2, s3⟩
                 go_simp; with_reducible rfl
               rotate_left
               · simp only [Act.put, List.setIfInBounds_toArray, List.set_cons_zero, List.set_cons_succ, i64_w, i32_w]
                 rfl
               refine one_ (i := 2) (N := some 75) #[T,T,T,T,T,F] rfl rfl (by kernel_rfl) (by decide) (fun K hK => ?_)
               refine goes_ Try.func14 (by kernel_rfl) rfl #[.slice (some ad274) l0.length c0, .slice (some ad273) l1.length c1] (by rfl) rfl rfl (by (try simp only [List.map_toArray, List.map_cons, List.map_nil]); first | done | rfl | (simp only [List.length_drop, List.length_take]; rfl)) ?_
               with_reducible refine (spec_Driven.calls k2 _ _ l0 _ _ l1 t277 _ ?side1 ?side2 ?side3 ?side4 A92.out).mono ?_
               (case side1 => repeat (first | exact (Kd.C_below HR0.out HB.out) | (with_reducible refine Kd.C_alloc ?_ _) | (with_reducible refine Kd.C_drewN ?_ _) | (with_reducible refine Kd.C_drew ?_)))
               (case side2 => exact HC0.out)
               (case side3 => repeat (first | exact (Kd.C_below HR1.out HB.out) | (with_reducible refine Kd.C_alloc ?_ _) | (with_reducible refine Kd.C_drewN ?_ _) | (with_reducible refine Kd.C_drew ?_)))
               (case side4 => exact HC1.out)
               rintro e w106 ⟨rfl, hb⟩
               refine ⟨_, rfl, ?_⟩
               have n0_ := Aside0.mk (blk_below (g := gb264) (o := .cells #[.int .i64 a2_0, .int .i64 a2_1, .int .i64 a2_2, .int .i64 a2_3] 25 (0, 0)) (nB BK264.out) hb)
               have n1_ := Aside0.mk (below_step (nH1 HB.out GE264.out) hb)
               clear BK264; clear HB; have BK264 := n0_; have HB := n1_; clear n0_ n1_; (try clear hb); (try clear hb2); (try clear hk); (try clear hi)
               refine hK.out _ _ ⟨(blk_cell BK264.out 0).trans rfl, (blk_cell BK264.out 1).trans rfl, (blk_cell BK264.out 2).trans rfl, (blk_cell BK264.out 3).trans rfl⟩ (fun hHeld => ?_)
               clear hK K
               refine norm_ (a' := ?_) ?_ ?_
               rotate_left
               · show Act.put _ (some 75) _ = _
                 simp only [Act.put, List.setIfInBounds_toArray, List.set_cons_zero, List.set_cons_succ, i64_w, i32_w]
                 rfl
               refine pK 5 (some 78) #[T,T,T,T,T,T] rfl rfl ?_
               refine done_ (by kernel_rfl) ?_
               try go_wp2
               have n0_ := Aside0.mk (blk_drew BK264.out)
               have n1_ := Aside0.mk (below_drew1 HB.out)
               clear BK264; clear HB; have BK264 := n0_; have HB := n1_; clear n0_ n1_
               refine start_ (n := 8) (S := fun w' => w'.cell? ⟨gb264, 0, none⟩ = some (.int .i64 a2_0) ∧ w'.cell? ⟨gb264, 1, none⟩ = some (.int .i64 a2_1) ∧ w'.cell? ⟨gb264, 2, none⟩ = some (.int .i64 a2_2) ∧ w'.cell? ⟨gb264, 3, none⟩ = some (.int .i64 a2_3)) (ds := []) #[F,F,F,F,F,F,F,F] (by kernel_rfl) rfl rfl ⟨(blk_cell BK264.out 0).trans rfl, (blk_cell BK264.out 1).trans rfl, (blk_cell BK264.out 2).trans rfl, (blk_cell BK264.out 3).trans rfl⟩ (fun hHeld => ?_); refine with_tabW spec_DutyCode.tab13 spec_DutyCode.bits13 (fun HT_ HW_ => ?_)
               generalize w106.drew = w107 at BK264 HB hHeld ⊢
               refine pU 0 (some 79) #[T,F,F,F,F,F,F,F] rfl rfl HT_.out ?_
               refine pU 1 (some 80) #[T,T,F,F,F,F,F,F] rfl rfl HT_.out ?_
               refine pU 2 (some 81) #[T,T,T,F,F,F,F,F] rfl rfl HT_.out ?_
               refine pU 5 (some 84) #[T,T,T,F,F,T,F,F] rfl rfl HT_.out ?_
               refine tU4 3 (some 82) #[T,T,T,T,F,T,F,F] rfl rfl HT_.out HW_.out hHeld ?_
               refine tU4 6 (some 85) #[T,T,T,T,F,T,T,F] rfl rfl HT_.out HW_.out hHeld ?_
               refine one_ (i := 4) (N := some 83) #[T,T,T,T,T,T,T,F] rfl rfl (one_of HT_.out (by kernel_rfl)) (by decide) (fun K hK => ?_)
               refine goes_ Try.func20 (by kernel_rfl) rfl #[.slice (some ad274) l0.length c0, .slice (some ad273) l1.length c1, .int .i64 a2_2] (by rfl) rfl rfl (by (try simp only [List.map_toArray, List.map_cons, List.map_nil]); first | done | rfl | (simp only [List.length_drop, List.length_take]; rfl)) ?_
               with_reducible refine (spec_Stretched.calls k2 _ _ l0 _ _ l1 a2_2 t278 _ ?side1 ?side2 ?side3 ?side4 A97.out).mono ?_
               (case side1 => repeat (first | exact (Kd.C_below HR0.out HB.out) | (with_reducible refine Kd.C_alloc ?_ _) | (with_reducible refine Kd.C_drewN ?_ _) | (with_reducible refine Kd.C_drew ?_)))
               (case side2 => exact HC0.out)
               (case side3 => repeat (first | exact (Kd.C_below HR1.out HB.out) | (with_reducible refine Kd.C_alloc ?_ _) | (with_reducible refine Kd.C_drewN ?_ _) | (with_reducible refine Kd.C_drew ?_)))
               (case side4 => exact HC1.out)
               rintro e w108 ⟨rfl, hb⟩
               refine ⟨_, rfl, ?_⟩
               have n0_ := Aside0.mk (blk_below (g := gb264) (o := .cells #[.int .i64 a2_0, .int .i64 a2_1, .int .i64 a2_2, .int .i64 a2_3] 25 (0, 0)) (nB BK264.out) hb)
               have n1_ := Aside0.mk (below_step (nH1 HB.out GE264.out) hb)
               clear BK264; clear HB; have BK264 := n0_; have HB := n1_; clear n0_ n1_; (try clear hb); (try clear hb2); (try clear hk); (try clear hi)
               refine hK.out _ _ ⟨(blk_cell BK264.out 0).trans rfl, (blk_cell BK264.out 1).trans rfl, (blk_cell BK264.out 2).trans rfl, (blk_cell BK264.out 3).trans rfl⟩ (fun hHeld => ?_)
               clear hK K
               refine norm_ (a' := ?_) ?_ ?_
               rotate_left
               · show Act.put _ (some 83) _ = _
                 simp only [Act.put, List.setIfInBounds_toArray, List.set_cons_zero, List.set_cons_succ, i64_w, i32_w]
                 rfl
               refine pU 7 (some 86) #[T,T,T,T,T,T,T,T] rfl rfl HT_.out ?_
               refine done_ (done_of HT_.out (by kernel_rfl)) ?_
               try go_wp2
               go_ret
               exact ⟨by first | rfl | (simp [errW_none, errW_some] <;> rfl) | (simp only [← hji82]; first | rfl | (simp [errW_none, errW_some] <;> rfl)) | (simp [*, errW_none, errW_some] <;> first | rfl | (simp [wrap64]; done)), nH1 HB.out GE264.out⟩
end Go.Proofs.Ytnamdbnnijfniaa.P

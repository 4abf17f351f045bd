/- Contracts of functions, each with its plain Lean function. -/
import Derived.Test.YtdpjoblnjjkbfaaDoorNe
import Derived.Test.YtdpjoblnjjkbfaaDoorNc
import Derived.Test.YtdpjoblnjjkbfaaDoorPx0
import Derived.Test.YtdpjoblnjjkbfaaDoorPx22
import Derived.Test.YtdpjoblnjjkbfaaDoorPx25
import Derived.Test.YtdpjoblnjjkbfaaDoorPx26
namespace Go.Proofs.YtdpjoblnjjkbfaaDoor.P
open Go.RowKit Go.Proofs.YtdpjoblnjjkbfaaDoorW.PrintWords Go.Proofs.YtdpjoblnjjkbfaaDoorW.PrintLast Go.Proofs.YtdpjoblnjjkbfaaDoorW.PrintMore
attribute [local go_sem] max2_int min2_int max_two min_two max_three min_three max_four min_four   -- for this text's walks alone
set_option linter.unusedVariables false
set_option linter.unusedSimpArgs false
/-! ### spec_LegsOk: function 20 -/
theorem spec_LegsOk.mono_l : ∀ k, (∀ y0 y1 y2 y3, LeO (spec_LegsOk.j0 k y0 y1 y2 y3) (spec_LegsOk.j0 (k + 1) y0 y1 y2 y3)) ∧ (∀ y0 y1 y2 y3, LeO (spec_LegsOk.l0 k y0 y1 y2 y3) (spec_LegsOk.l0 (k + 1) y0 y1 y2 y3)) ∧ (∀ y0 y1 y2 y3 y4 y5 y6 y7, LeO (spec_LegsOk.j2 k y0 y1 y2 y3 y4 y5 y6 y7) (spec_LegsOk.j2 (k + 1) y0 y1 y2 y3 y4 y5 y6 y7))
 | 0 => ⟨fun _ _ _ _ r h => by simp [spec_LegsOk.j0] at h, fun _ _ _ _ r h => by simp [spec_LegsOk.l0] at h, fun _ _ _ _ _ _ _ _ r h => by simp [spec_LegsOk.j2] at h⟩
 | k + 1 => by
  obtain ⟨ih0, ih1, ih2⟩ := spec_LegsOk.mono_l k
  refine ⟨?_, ?_, ?_⟩
  all_goals intros
  all_goals first | unfold spec_LegsOk.j0 | unfold spec_LegsOk.l0 | unfold spec_LegsOk.j2
  all_goals
   repeat' first
   | (with_reducible exact ih0 _ _ _ _)
   | (with_reducible exact ih1 _ _ _ _)
   | (with_reducible exact ih2 _ _ _ _ _ _ _ _)
   | (with_reducible exact spec_TableOk.mono _ _)
   | (with_reducible exact LeO.refl _)
   | (with_reducible exact LeO.none _)
   | (with_reducible refine LeO.ite ?_ ?_)
   | (with_reducible refine LeO.bind ?_ (fun _ => ?_))
   | exact ih0 _ _ _ _
   | exact ih1 _ _ _ _
   | exact ih2 _ _ _ _ _ _ _ _
   | exact spec_TableOk.mono _ _
   | exact LeO.none _
   | refine LeO.ite ?_ ?_
   | refine LeO.bind ?_ (fun _ => ?_)
theorem spec_LegsOk.mono : ∀ a0 a1 a2 k, LeO (spec_LegsOk.f k a0 a1 a2) (spec_LegsOk.f (k + 1) a0 a1 a2) := by
 intro a0 a1 a2 k
 obtain ⟨ih0, ih1, ih2⟩ := spec_LegsOk.mono_l k
 unfold spec_LegsOk.f
 repeat' first
  | (with_reducible exact ih0 _ _ _ _)
  | (with_reducible exact ih1 _ _ _ _)
  | (with_reducible exact ih2 _ _ _ _ _ _ _ _)
  | (with_reducible exact spec_TableOk.mono _ _)
  | (with_reducible exact LeO.refl _)
  | (with_reducible exact LeO.none _)
  | (with_reducible refine LeO.ite ?_ ?_)
  | (with_reducible refine LeO.bind ?_ (fun _ => ?_))
  | exact ih0 _ _ _ _
  | exact ih1 _ _ _ _
  | exact ih2 _ _ _ _ _ _ _ _
  | exact spec_TableOk.mono _ _
  | exact LeO.none _
  | refine LeO.ite ?_ ?_
  | refine LeO.bind ?_ (fun _ => ?_)
def spec_LegsOk.T7 : Bool × List (List Nat × List Nat) := (true, [([], []), ([0], [0]), ([], []), ([2], [2]), ([3], [3]), ([1, 4], [1, 4]), ([5], [5]), ([6, 5], [6]), ([7], [7]), ([8, 7], [7, 8]), ([7], [7]), ([7], [7]), ([11, 7], [7, 11]), ([10, 12, 7], [7, 10, 12]), ([13, 7], [7, 13]), ([14, 7], [7, 14]), ([15, 7], [7, 15]), ([16, 7], [7, 16]), ([9, 17, 7, 7], [7, 9, 17]), ([18, 7], [7, 18]), ([7, 19], [7, 19]), ([20, 18], [20]), ([21], [21]), ([22, 21], [21, 22]), ([21], [21]), ([24, 21], [21, 24]), ([25, 21], [21, 25]), ([23, 26, 21, 21], [21, 23, 26]), ([27, 21], [21, 27]), ([21, 28], [21, 28])])
def spec_LegsOk.B7 : List Nat := [0, 1, 0, 4, 12, 31, 63, 127, 255, 511, 255, 255, 2303, 7423, 15615, 31999, 64767, 130303, 262143, 524287, 1048575, 2097151, 4194303, 8388607, 4194303, 20971519, 54525951, 134217727, 268435455, 536870911]
theorem spec_LegsOk.tab7 : rtab .any (opsOf Tryd.f20 7) = spec_LegsOk.T7 := by kernel_rfl
theorem spec_LegsOk.bits7 : waitsOk spec_LegsOk.T7.2 spec_LegsOk.B7 = true := by kernel_rfl
def spec_LegsOk.T10 : Bool × List (List Nat × List Nat) := (true, [([], []), ([], []), ([], []), ([2], [2]), ([1, 3], [1, 3]), ([4], [4]), ([5], [5]), ([0, 6], [0, 6]), ([7], [7]), ([8], [8]), ([], []), ([], []), ([11], [11]), ([10, 12], [10, 12]), ([13], [13]), ([14], [14]), ([9, 15], [9, 15]), ([16], [16]), ([], []), ([18, 17, 0, 1, 2, 3, 4, 5, 6, 7, 8, 9, 10, 11, 12, 13, 14, 15, 16, 17, 18], [17, 18])])
def spec_LegsOk.B10 : List Nat := [0, 0, 0, 4, 14, 30, 62, 127, 255, 511, 0, 0, 2048, 7168, 15360, 31744, 65535, 131071, 0, 524287]
theorem spec_LegsOk.tab10 : rtab .any (opsOf Tryd.f20 10) = spec_LegsOk.T10 := by kernel_rfl
theorem spec_LegsOk.bits10 : waitsOk spec_LegsOk.T10.2 spec_LegsOk.B10 = true := by kernel_rfl
def spec_LegsOk.T11 : Bool × List (List Nat × List Nat) := (true, [([], []), ([], []), ([1], [1]), ([0, 2], [0, 2]), ([3], [3]), ([4], [4]), ([], []), ([6], [6]), ([5, 7], [5, 7]), ([8], [8]), ([], []), ([10, 9, 0, 1, 2, 3, 4, 5, 6, 7, 8, 9, 10], [9, 10])])
def spec_LegsOk.B11 : List Nat := [0, 0, 2, 7, 15, 31, 0, 64, 255, 511, 0, 2047]
theorem spec_LegsOk.tab11 : rtab .any (opsOf Tryd.f20 11) = spec_LegsOk.T11 := by kernel_rfl
theorem spec_LegsOk.bits11 : waitsOk spec_LegsOk.T11.2 spec_LegsOk.B11 = true := by kernel_rfl
set_option maxHeartbeats 8000000 in
set_option maxRecDepth 100000 in
theorem spec_LegsOk.calls (k : Nat) (A0 : Option Addr) (c0 : Nat) (l0 : List (S46)) (A1 : Option Addr) (c1 : Nat) (l1 : List (S48)) (a2 : Int) (r : Bool) (w : World) (hr0 : Kd.C k46 w A0 l0.length l0) (hc0 : l0.length ≤ c0) (hr1 : Kd.C k48 w A1 l1.length l1) (hc1 : l1.length ≤ c1) (h : spec_LegsOk.f k l0 l1 a2 = some r) :
 Calls Tryd.prog 20 #[.slice A0 l0.length c0, .slice A1 l1.length c1, .int .i64 a2] w fun e w' => e = .returned (.bool r) ∧ Below w.heap.size w w' := by
 have hu48 := Tryd.underlying48; have hu43 := Tryd.underlying43
 have HR0 := aM hr0
 have HC0 := aM hc0
 clear hr0 hc0
 have HR1 := aM hr1
 have HC1 := aM hc1
 clear hr1 hc1
 have HB := aM (Below.refl w.heap.size w)
 have H : ((spec_TableOk.f k l0).bind fun t362 => (if t362 = true then ((spec_l12Change.f a2).bind fun t363 => (if t363 = true then (spec_LegsOk.j0 k l0 l1 a2 (decide ((l1.length : Int) > 5))) else (spec_LegsOk.j0 k l0 l1 a2 true))) else (spec_LegsOk.j0 k l0 l1 a2 true))) = some r := h
 clear h
 have HC4 := aM H
 clear H
 go_enter Tryd.func20, Tryd.ntmps20
 go_upto_region 1 with (fail)
 go_cut [23] (fun v23 wc => ∃ (kq : Nat) (x23_3 : Bool), v23 = .bool x23_3 ∧ Aside0 (spec_LegsOk.j0 kq l0 l1 a2 x23_3 = some r) ∧ Aside0 (kq ≤ k) ∧ Aside0 (Below w.heap.size w wc))
 case first =>
  have H := HC4.out; clear HC4
  obtain ⟨t362, A50, H⟩ := Option.bind_eq_some_iff.mp H
  have A5 := aM A50
  clear A50
  by_cases c6 : t362 = true
  · subst c6
    rw [if_pos rfl] at H
    obtain ⟨t363, A70, H⟩ := Option.bind_eq_some_iff.mp H
    have A7 := aM A70
    clear A70
    by_cases c8 : t363 = true
    · subst c8
      rw [if_pos rfl] at H
      have H' := aM H
      clear H
      go_wp2_with (first | ((with_reducible refine gate_callee (f := 45) rfl ?_); refine goesL_ (some 12) rfl rfl Tryd.func45 (by kernel_rfl) rfl #[.slice A0 l0.length c0] rfl nM ?_; (with_reducible refine (spec_TableOk.calls k _ _ l0 true _ ?side1 ?side2 A5.out).mono ?_); (case side1 => exact nD HR0.out HB.out); (case side2 => exact HC0.out); rintro e w9 ⟨rfl, hb⟩; refine ⟨_, rfl, ?_⟩; have n_ := aM (below_step (nH HB.out) hb); clear HB; have HB := n_; clear n_; (try clear hb); (try clear hb2); (try clear hk); (try clear hi)) | (go_at_call 46; (with_reducible refine (spec_l12Change.calls a2 true _ A7.out).mono ?_); rintro e w' ⟨rfl, ⟨nd, rfl⟩⟩))
      go_meet
      case rel => exact ⟨_, (decide ((l1.length : Int) > 5)), nS, H', ⟨by first | omega | exact Nat.le_refl _⟩, ⟨nH HB.out⟩⟩
    · replace c8 := Bool.eq_false_iff.mpr c8
      subst c8
      rw [if_neg nN] at H
      have H' := aM H
      clear H
      go_wp2_with (first | ((with_reducible refine gate_callee (f := 45) rfl ?_); refine goesL_ (some 12) rfl rfl Tryd.func45 (by kernel_rfl) rfl #[.slice A0 l0.length c0] rfl nM ?_; (with_reducible refine (spec_TableOk.calls k _ _ l0 true _ ?side1 ?side2 A5.out).mono ?_); (case side1 => exact nD HR0.out HB.out); (case side2 => exact HC0.out); rintro e w10 ⟨rfl, hb⟩; refine ⟨_, rfl, ?_⟩; have n_ := aM (below_step (nH HB.out) hb); clear HB; have HB := n_; clear n_; (try clear hb); (try clear hb2); (try clear hk); (try clear hi)) | (go_at_call 46; (with_reducible refine (spec_l12Change.calls a2 false _ A7.out).mono ?_); rintro e w' ⟨rfl, ⟨nd, rfl⟩⟩))
      go_meet
      case rel => exact ⟨_, (true), nS, H', ⟨by first | omega | exact Nat.le_refl _⟩, ⟨nH HB.out⟩⟩
  · replace c6 := Bool.eq_false_iff.mpr c6
    subst c6
    rw [if_neg nN] at H
    have H' := aM H
    clear H
    go_wp2_with (first | ((with_reducible refine gate_callee (f := 45) rfl ?_); refine goesL_ (some 12) rfl rfl Tryd.func45 (by kernel_rfl) rfl #[.slice A0 l0.length c0] rfl nM ?_; (with_reducible refine (spec_TableOk.calls k _ _ l0 false _ ?side1 ?side2 A5.out).mono ?_); (case side1 => exact nD HR0.out HB.out); (case side2 => exact HC0.out); rintro e w11 ⟨rfl, hb⟩; refine ⟨_, rfl, ?_⟩; have n_ := aM (below_step (nH HB.out) hb); clear HB; have HB := n_; clear n_; (try clear hb); (try clear hb2); (try clear hk); (try clear hi)))
    go_meet
    case rel => exact ⟨_, (true), nS, H', ⟨by first | omega | exact Nat.le_refl _⟩, ⟨nH HB.out⟩⟩
 case rest =>
  clear HC4; try clear c1; try clear c2; try clear p2; try clear c4; try clear c6; try clear c8
  obtain ⟨kq, x23_3, rfl, HA, HJ3, HB⟩ := hcut
  cases kq with
  | zero => exact absurd HA.out (by simp [spec_LegsOk.j0])
  | succ kj3 =>
   have H := HA.out; clear HA
   simp only [spec_LegsOk.j0] at H
   by_cases c12 : x23_3 = true
   · subst c12
     rw [if_pos rfl] at H; obtain rfl := Option.some.inj H; go_wp2; go_ret
     exact ⟨by first | rfl | (simp [errW_none, errW_some] <;> rfl) | (simp [*, errW_none, errW_some] <;> first | rfl | (simp [wrap64]; done)), nH HB.out⟩
   · replace c12 := Bool.eq_false_iff.mpr c12
     subst c12
     rw [if_neg nN] at H
     have H' := aM H
     clear H; go_wp2
     go_loopg [7] kj3 (fun kq v7 w' => ∃ (x7_2 : Int), v7 = .int .i64 x7_2 ∧ Aside0 (spec_LegsOk.l0 kq l0 l1 a2 x7_2 = some r) ∧ Aside0 (kq ≤ kj3) ∧ Aside0 (Below w.heap.size w w'))
     case atStart => exact ⟨(0), nS, H', ⟨Nat.le_refl _⟩, ⟨nH HB.out⟩⟩
     case round =>
      clear H'
      try clear c1; try clear c2; try clear p2; try clear c4; try clear c6; try clear p6; try clear c8; try clear c12; try clear p2
      obtain ⟨x7_2, rfl, HA, HK2, HB⟩ := hrel
      cases gk with
      | zero => exact absurd HA.out (by simp [spec_LegsOk.l0])
      | succ k2 =>
       have H := HA.out; clear HA
       simp only [spec_LegsOk.l0] at H
       by_cases c13 : x7_2 < (l1.length : Int)
       · rw [if_pos c13] at H
         have c13b0 : decide (x7_2 < (l1.length : Int)) = true := decide_eq_true c13
         clear c13
         by_cases c14 : 0 ≤ x7_2
         rotate_left
         · (rw [if_neg c14] at H; exact absurd H (by simp))
         rw [if_pos c14] at H
         have c14b0 : decide (0 ≤ x7_2) = true := decide_eq_true c14
         clear c14
         have HC15 := aM H
         clear H
         have p364 : 0 ≤ (x7_2 : Int) := of_decide_eq_true nQ
         have q364 : x7_2 < (l1.length : Int) := of_decide_eq_true nQ
         obtain ⟨ad364, e364, hx364_0, hx364_1, hx364_2⟩ := at_T48 HR1.out x7_2 p364 q364
         cases e364
         replace hx364_0 := (HB.out.cell (World.block_lt_of_cell? w _ hx364_0)).trans hx364_0
         replace hx364_1 := (HB.out.cell (World.block_lt_of_cell? w _ hx364_1)).trans hx364_1
         replace hx364_2 := (HB.out.cell (World.block_lt_of_cell? w _ hx364_2)).trans hx364_2
         replace p364 := eq_true p364; replace q364 := eq_true q364
         go_upto_region 7 with (first | ((with_reducible refine gate_dst (N := 8) rfl ?_); (try (refine gate_guard (by rfl) ?_; dsimp only)); refine box_event ?hg (N := 8) ?hd (cs := #[.int .i64 0, .int .i64 0, .int .i64 0]) (t := 48) ?hr ?_; (case hd => rfl); (case hg => rfl); (case hr => first | (go_simp; done) | (go_simp; rfl)); intro gb365 hg w16 hbox hb; have n_ := aA (below_step (nH HB.out) hb) <| aA (hbox) <| aA (bS hg (nH HB.out)) <| aM (bS hg (nH HB.out)); clear HB; obtain ⟨HB, BK365, GW365, GE365⟩ := n_; clear hb hbox hg; obtain ⟨hcz17_0, hcz17_1, hcz17_2, hfz17_0, hfz17_1, hfz17_2⟩ := nK3 BK365.out))
         (try simp only [Act.put, List.setIfInBounds_toArray, List.set_cons_zero, List.set_cons_succ])
         go_cut [63] (fun v63 wc => ∃ (kq : Nat) (x63_14 : Bool), v63 = .bool x63_14 ∧ Aside0 (spec_LegsOk.j2 kq l0 l1 a2 x7_2 x63_14 ((rd_T48 l1 x7_2).f0) ((rd_T48 l1 x7_2).f1) ((rd_T48 l1 x7_2).f2) = some r) ∧ Aside0 (kq ≤ k2) ∧ Aside0 (wc.heap[gb365]? = some (.cells #[.int .i64 ((rd_T48 l1 x7_2).f0), .int .i64 ((rd_T48 l1 x7_2).f1), .int .i64 ((rd_T48 l1 x7_2).f2)] 48 (0, 0))) ∧ Aside0 (Below w.heap.size w wc))
         case first =>
          have H := HC15.out; clear HC15
          obtain ⟨t366, A180, H⟩ := Option.bind_eq_some_iff.mp H
          have A18 := aM A180
          clear A180
          by_cases c19 : t366 = true
          · subst c19
            rw [if_pos rfl] at H
            by_cases c20 : 0 ≤ ((rd_T48 l1 x7_2).f0)
            rotate_left
            · (rw [if_neg c20] at H; exact absurd H (by simp))
            rw [if_pos c20] at H
            have c20b0 : decide (0 ≤ ((rd_T48 l1 x7_2).f0)) = true := decide_eq_true c20
            clear c20
            (first | rw [c20b0] | (simp only [i64_w, i32_w]; rw [c20b0]) | skip)
            by_cases c21 : ((rd_T48 l1 x7_2).f0) < (l0.length : Int)
            rotate_left
            · (rw [if_neg c21] at H; exact absurd H (by simp))
            rw [if_pos c21] at H
            have c21b0 : decide (((rd_T48 l1 x7_2).f0) < (l0.length : Int)) = true := decide_eq_true c21
            clear c21
            obtain ⟨t368, A220, H⟩ := Option.bind_eq_some_iff.mp H
            have A22 := aM A220
            clear A220
            by_cases c23 : t368 = true
            · subst c23
              rw [if_pos rfl] at H
              obtain ⟨t369, A240, H⟩ := Option.bind_eq_some_iff.mp H
              have A24 := aM A240
              clear A240
              have H' := aM H
              clear H
              try go_wp2
              have n0_ : Aside0 ((((w16.setCell ⟨gb365, 0, none⟩ (.int .i64 ((rd_T48 l1 x7_2).f0))).setCell ⟨gb365, 1, none⟩ (.int .i64 ((rd_T48 l1 x7_2).f1))).setCell ⟨gb365, 2, none⟩ (.int .i64 ((rd_T48 l1 x7_2).f2))).heap[gb365]? = some (.cells #[.int .i64 ((rd_T48 l1 x7_2).f0), .int .i64 ((rd_T48 l1 x7_2).f1), .int .i64 ((rd_T48 l1 x7_2).f2)] 48 (0, 0))) := ⟨by refine nE ?_; refine blk_put (cs := #[.int .i64 ((rd_T48 l1 x7_2).f0), .int .i64 ((rd_T48 l1 x7_2).f1), .int .i64 0]) ?_ 2 _ rfl; refine nE ?_; refine blk_put (cs := #[.int .i64 ((rd_T48 l1 x7_2).f0), .int .i64 0, .int .i64 0]) ?_ 1 _ rfl; refine nE ?_; refine blk_put (cs := #[.int .i64 0, .int .i64 0, .int .i64 0]) ?_ 0 _ rfl; exact nB BK365.out⟩
              have n1_ : Aside0 (Below w.heap.size w (((w16.setCell ⟨gb365, 0, none⟩ (.int .i64 ((rd_T48 l1 x7_2).f0))).setCell ⟨gb365, 1, none⟩ (.int .i64 ((rd_T48 l1 x7_2).f1))).setCell ⟨gb365, 2, none⟩ (.int .i64 ((rd_T48 l1 x7_2).f2)))) := ⟨nH1 HB.out GE365.out⟩
              (try clear BK365); (try clear HB)
              generalize (((w16.setCell ⟨gb365, 0, none⟩ (.int .i64 ((rd_T48 l1 x7_2).f0))).setCell ⟨gb365, 1, none⟩ (.int .i64 ((rd_T48 l1 x7_2).f1))).setCell ⟨gb365, 2, none⟩ (.int .i64 ((rd_T48 l1 x7_2).f2))) = w25 at n0_ n1_ ⊢
              have BK365 := n0_; have HB := n1_; clear n0_ n1_
              have n_ := aA (blk_drew BK365.out) <| aM (below_drew1 HB.out); clear BK365 HB; obtain ⟨BK365, HB⟩ := n_
              have p367 : 0 ≤ (((rd_T48 l1 x7_2).f0) : Int) := of_decide_eq_true nQ
              have q367 : ((rd_T48 l1 x7_2).f0) < (l0.length : Int) := of_decide_eq_true nQ
              obtain ⟨ad367, A367_1, c367_1, e367, hx367_0, hx367_1, hl367_1, hi367_1⟩ := at_T46 HR0.out ((rd_T48 l1 x7_2).f0) p367 q367
              have hw367_1 := hx367_1; have hw367_0 := hx367_0; cases e367
              replace hx367_0 := (HB.out.cell (World.block_lt_of_cell? w _ hx367_0)).trans hx367_0
              replace hx367_1 := (HB.out.cell (World.block_lt_of_cell? w _ hx367_1)).trans hx367_1
              have HR367_1 := aM hi367_1
              have HC367_1 := aM hl367_1
              clear hi367_1 hl367_1; replace p367 := eq_true p367; replace q367 := eq_true q367
              refine start_ (n := 30) (S := fun w' => w'.cell? ⟨gb365, 0, none⟩ = some (.int .i64 ((rd_T48 l1 x7_2).f0)) ∧ w'.cell? ⟨gb365, 1, none⟩ = some (.int .i64 ((rd_T48 l1 x7_2).f1)) ∧ w'.cell? ⟨gb365, 2, none⟩ = some (.int .i64 ((rd_T48 l1 x7_2).f2)) ∧ w'.cell? (ad367.add ((((rd_T48 l1 x7_2).f0)).toNat * 2)) = some (.string ((rd_T46 l0 ((rd_T48 l1 x7_2).f0)).f0)) ∧ w'.cell? ⟨(ad367.add ((((rd_T48 l1 x7_2).f0)).toNat * 2)).block, (ad367.add ((((rd_T48 l1 x7_2).f0)).toNat * 2)).off + 1, none⟩ = some (.slice A367_1 ((rd_T46 l0 ((rd_T48 l1 x7_2).f0)).f1).length c367_1)) (ds := []) #[F,F,F,F,F,F,F,F,F,F,F,F,F,F,F,F,F,F,F,F,F,F,F,F,F,F,F,F,F,F] (by kernel_rfl) rfl rfl ⟨(blk_cell BK365.out 0).trans rfl, (blk_cell BK365.out 1).trans rfl, (blk_cell BK365.out 2).trans rfl, (nC HB.out hw367_0 :), (nC HB.out hw367_1 :)⟩ (fun hHeld => ?_); refine with_tabW spec_LegsOk.tab7 spec_LegsOk.bits7 (fun HT_ HW_ => ?_)
              generalize w25.drew = w26 at BK365 HB HR367_1 hx367_0 hx367_1 hHeld ⊢
              refine qU 0 (some 34) rfl rfl HT_.out ?_
              refine qU 2 (some 36) rfl rfl HT_.out ?_
              refine qU 3 (some 37) rfl rfl HT_.out ?_
              refine qU 4 (some 38) rfl rfl HT_.out ?_
              refine qT5 1 (some 35) rfl rfl HT_.out HW_.out hHeld ?_
              refine one_ (i := 5) (N := some 39) #[T,T,T,T,T,T,F,F,F,F,F,F,F,F,F,F,F,F,F,F,F,F,F,F,F,F,F,F,F,F] rfl rfl (one_of HT_.out (by kernel_rfl)) (by decide) (fun K hK => ?_)
              refine goes_ Tryd.func47 (by kernel_rfl) rfl #[.int .i64 ((rd_T48 l1 x7_2).f0), .int .i64 0, .int .i64 (wrap64 ((l0.length : Int) - 1))] (by rfl) rfl rfl nM ?_
              with_reducible refine (spec_l01In.calls ((rd_T48 l1 x7_2).f0) 0 (wrap64 ((l0.length : Int) - 1)) true _ A18.out).mono ?_
              rintro e w' ⟨rfl, ⟨nd, rfl⟩⟩
              refine ⟨_, rfl, ?_⟩
              refine hK.out _ _ ⟨(blk_cell BK365.out 0).trans rfl, (blk_cell BK365.out 1).trans rfl, (blk_cell BK365.out 2).trans rfl, (nC HB.out hw367_0 :), (nC HB.out hw367_1 :)⟩ (fun hHeld => ?_)
              clear hK K
              refine norm_ (a' := ?_) ?_ ?_
              rotate_left
              · show Act.put _ (some 39) _ = _
                simp only [Act.put, List.setIfInBounds_toArray, List.set_cons_zero, List.set_cons_succ, i64_w, i32_w]
                rfl
              refine qU 6 (some 40) rfl rfl HT_.out ?_
              refine qU 7 (some 41) rfl rfl HT_.out ?_
              refine qU 8 (some 42) rfl rfl HT_.out ?_
              refine qU 10 (some 44) rfl rfl HT_.out ?_
              refine qU 11 (some 45) rfl rfl HT_.out ?_
              refine qT5 9 (some 43) rfl rfl HT_.out HW_.out hHeld ?_
              refine qT5 12 (some 46) rfl rfl HT_.out HW_.out hHeld ?_
              refine qU 13 (some 47) rfl rfl HT_.out ?_
              refine qU 14 (some 48) rfl rfl HT_.out ?_
              refine qT5 15 (some 49) rfl rfl HT_.out HW_.out hHeld ?_
              refine qU 16 (some 50) rfl rfl HT_.out ?_
              refine qU 17 (some 51) rfl rfl HT_.out ?_
              refine one_ (i := 18) (N := some 52) #[T,T,T,T,T,T,T,T,T,T,T,T,T,T,T,T,T,T,T,F,F,F,F,F,F,F,F,F,F,F] rfl rfl (one_of HT_.out (by kernel_rfl)) (by decide) (fun K hK => ?_)
              refine goes_ Tryd.func47 (by kernel_rfl) rfl #[.int .i64 ((rd_T48 l1 x7_2).f2), .int .i64 0, .int .i64 (wrap64 ((((rd_T46 l0 ((rd_T48 l1 x7_2).f0)).f1).length : Int) - 1))] (by rfl) rfl rfl nM ?_
              with_reducible refine (spec_l01In.calls ((rd_T48 l1 x7_2).f2) 0 (wrap64 ((((rd_T46 l0 ((rd_T48 l1 x7_2).f0)).f1).length : Int) - 1)) true _ A22.out).mono ?_
              rintro e w' ⟨rfl, ⟨nd, rfl⟩⟩
              refine ⟨_, rfl, ?_⟩
              refine hK.out _ _ ⟨(blk_cell BK365.out 0).trans rfl, (blk_cell BK365.out 1).trans rfl, (blk_cell BK365.out 2).trans rfl, (nC HB.out hw367_0 :), (nC HB.out hw367_1 :)⟩ (fun hHeld => ?_)
              clear hK K
              refine norm_ (a' := ?_) ?_ ?_
              rotate_left
              · show Act.put _ (some 52) _ = _
                simp only [Act.put, List.setIfInBounds_toArray, List.set_cons_zero, List.set_cons_succ, i64_w, i32_w]
                rfl
              refine qU 19 (some 53) rfl rfl HT_.out ?_
              refine qU 20 (some 54) rfl rfl HT_.out ?_
              refine qU 21 (some 55) rfl rfl HT_.out ?_
              refine qU 22 (some 56) rfl rfl HT_.out ?_
              refine qU 24 (some 58) rfl rfl HT_.out ?_
              refine qT5 23 (some 57) rfl rfl HT_.out HW_.out hHeld ?_
              refine qT5 25 (some 59) rfl rfl HT_.out HW_.out hHeld ?_
              refine qU 26 (some 60) rfl rfl HT_.out ?_
              refine one_ (i := 27) (N := some 61) #[T,T,T,T,T,T,T,T,T,T,T,T,T,T,T,T,T,T,T,T,T,T,T,T,T,T,T,T,F,F] rfl rfl (one_of HT_.out (by kernel_rfl)) (by decide) (fun K hK => ?_)
              refine goes_ Tryd.func47 (by kernel_rfl) rfl #[.int .i64 ((rd_T48 l1 x7_2).f1), .int .i64 0, .int .i64 (wrap64 (((rd_T48 l1 x7_2).f2) - 1))] (by rfl) rfl rfl nM ?_
              with_reducible refine (spec_l01In.calls ((rd_T48 l1 x7_2).f1) 0 (wrap64 (((rd_T48 l1 x7_2).f2) - 1)) t369 _ A24.out).mono ?_
              rintro e w' ⟨rfl, ⟨nd, rfl⟩⟩
              refine ⟨_, rfl, ?_⟩
              refine hK.out _ _ ⟨(blk_cell BK365.out 0).trans rfl, (blk_cell BK365.out 1).trans rfl, (blk_cell BK365.out 2).trans rfl, (nC HB.out hw367_0 :), (nC HB.out hw367_1 :)⟩ (fun hHeld => ?_)
              clear hK K
              refine norm_ (a' := ?_) ?_ ?_
              rotate_left
              · show Act.put _ (some 61) _ = _
                simp only [Act.put, List.setIfInBounds_toArray, List.set_cons_zero, List.set_cons_succ, i64_w, i32_w]
                rfl
              refine qU 28 (some 62) rfl rfl HT_.out ?_
              refine qU 29 (some 63) rfl rfl HT_.out ?_
              refine done_ (done_of HT_.out (by kernel_rfl)) ?_
              try go_wp2
              go_meet
              case rel => exact ⟨_, (!t369), nS, H', ⟨by have := HJ3.out; have := HK2.out; first | omega | exact Nat.le_refl _⟩, ⟨by exact nB BK365.out⟩, ⟨nH1 HB.out GE365.out⟩⟩
            · replace c23 := Bool.eq_false_iff.mpr c23
              subst c23
              rw [if_neg nN] at H
              have H' := aM H
              clear H
              try go_wp2
              have n0_ : Aside0 ((((w16.setCell ⟨gb365, 0, none⟩ (.int .i64 ((rd_T48 l1 x7_2).f0))).setCell ⟨gb365, 1, none⟩ (.int .i64 ((rd_T48 l1 x7_2).f1))).setCell ⟨gb365, 2, none⟩ (.int .i64 ((rd_T48 l1 x7_2).f2))).heap[gb365]? = some (.cells #[.int .i64 ((rd_T48 l1 x7_2).f0), .int .i64 ((rd_T48 l1 x7_2).f1), .int .i64 ((rd_T48 l1 x7_2).f2)] 48 (0, 0))) := ⟨by refine nE ?_; refine blk_put (cs := #[.int .i64 ((rd_T48 l1 x7_2).f0), .int .i64 ((rd_T48 l1 x7_2).f1), .int .i64 0]) ?_ 2 _ rfl; refine nE ?_; refine blk_put (cs := #[.int .i64 ((rd_T48 l1 x7_2).f0), .int .i64 0, .int .i64 0]) ?_ 1 _ rfl; refine nE ?_; refine blk_put (cs := #[.int .i64 0, .int .i64 0, .int .i64 0]) ?_ 0 _ rfl; exact nB BK365.out⟩
              have n1_ : Aside0 (Below w.heap.size w (((w16.setCell ⟨gb365, 0, none⟩ (.int .i64 ((rd_T48 l1 x7_2).f0))).setCell ⟨gb365, 1, none⟩ (.int .i64 ((rd_T48 l1 x7_2).f1))).setCell ⟨gb365, 2, none⟩ (.int .i64 ((rd_T48 l1 x7_2).f2)))) := ⟨nH1 HB.out GE365.out⟩
              (try clear BK365); (try clear HB)
              generalize (((w16.setCell ⟨gb365, 0, none⟩ (.int .i64 ((rd_T48 l1 x7_2).f0))).setCell ⟨gb365, 1, none⟩ (.int .i64 ((rd_T48 l1 x7_2).f1))).setCell ⟨gb365, 2, none⟩ (.int .i64 ((rd_T48 l1 x7_2).f2))) = w27 at n0_ n1_ ⊢
              have BK365 := n0_; have HB := n1_; clear n0_ n1_
              have n_ := aA (blk_drew BK365.out) <| aM (below_drew1 HB.out); clear BK365 HB; obtain ⟨BK365, HB⟩ := n_
              have p367 : 0 ≤ (((rd_T48 l1 x7_2).f0) : Int) := of_decide_eq_true nQ
              have q367 : ((rd_T48 l1 x7_2).f0) < (l0.length : Int) := of_decide_eq_true nQ
              obtain ⟨ad367, A367_1, c367_1, e367, hx367_0, hx367_1, hl367_1, hi367_1⟩ := at_T46 HR0.out ((rd_T48 l1 x7_2).f0) p367 q367
              have hw367_1 := hx367_1; have hw367_0 := hx367_0; cases e367
              replace hx367_0 := (HB.out.cell (World.block_lt_of_cell? w _ hx367_0)).trans hx367_0
              replace hx367_1 := (HB.out.cell (World.block_lt_of_cell? w _ hx367_1)).trans hx367_1
              have HR367_1 := aM hi367_1
              have HC367_1 := aM hl367_1
              clear hi367_1 hl367_1; replace p367 := eq_true p367; replace q367 := eq_true q367
              refine start_ (n := 30) (S := fun w' => w'.cell? ⟨gb365, 0, none⟩ = some (.int .i64 ((rd_T48 l1 x7_2).f0)) ∧ w'.cell? ⟨gb365, 1, none⟩ = some (.int .i64 ((rd_T48 l1 x7_2).f1)) ∧ w'.cell? ⟨gb365, 2, none⟩ = some (.int .i64 ((rd_T48 l1 x7_2).f2)) ∧ w'.cell? (ad367.add ((((rd_T48 l1 x7_2).f0)).toNat * 2)) = some (.string ((rd_T46 l0 ((rd_T48 l1 x7_2).f0)).f0)) ∧ w'.cell? ⟨(ad367.add ((((rd_T48 l1 x7_2).f0)).toNat * 2)).block, (ad367.add ((((rd_T48 l1 x7_2).f0)).toNat * 2)).off + 1, none⟩ = some (.slice A367_1 ((rd_T46 l0 ((rd_T48 l1 x7_2).f0)).f1).length c367_1)) (ds := []) #[F,F,F,F,F,F,F,F,F,F,F,F,F,F,F,F,F,F,F,F,F,F,F,F,F,F,F,F,F,F] (by kernel_rfl) rfl rfl ⟨(blk_cell BK365.out 0).trans rfl, (blk_cell BK365.out 1).trans rfl, (blk_cell BK365.out 2).trans rfl, (nC HB.out hw367_0 :), (nC HB.out hw367_1 :)⟩ (fun hHeld => ?_); refine with_tabW spec_LegsOk.tab7 spec_LegsOk.bits7 (fun HT_ HW_ => ?_)
              generalize w27.drew = w28 at BK365 HB HR367_1 hx367_0 hx367_1 hHeld ⊢
              refine qU 0 (some 34) rfl rfl HT_.out ?_
              refine qU 2 (some 36) rfl rfl HT_.out ?_
              refine qU 3 (some 37) rfl rfl HT_.out ?_
              refine qU 4 (some 38) rfl rfl HT_.out ?_
              refine qT5 1 (some 35) rfl rfl HT_.out HW_.out hHeld ?_
              refine one_ (i := 5) (N := some 39) #[T,T,T,T,T,T,F,F,F,F,F,F,F,F,F,F,F,F,F,F,F,F,F,F,F,F,F,F,F,F] rfl rfl (one_of HT_.out (by kernel_rfl)) (by decide) (fun K hK => ?_)
              refine goes_ Tryd.func47 (by kernel_rfl) rfl #[.int .i64 ((rd_T48 l1 x7_2).f0), .int .i64 0, .int .i64 (wrap64 ((l0.length : Int) - 1))] (by rfl) rfl rfl nM ?_
              with_reducible refine (spec_l01In.calls ((rd_T48 l1 x7_2).f0) 0 (wrap64 ((l0.length : Int) - 1)) true _ A18.out).mono ?_
              rintro e w' ⟨rfl, ⟨nd, rfl⟩⟩
              refine ⟨_, rfl, ?_⟩
              refine hK.out _ _ ⟨(blk_cell BK365.out 0).trans rfl, (blk_cell BK365.out 1).trans rfl, (blk_cell BK365.out 2).trans rfl, (nC HB.out hw367_0 :), (nC HB.out hw367_1 :)⟩ (fun hHeld => ?_)
              clear hK K
              refine norm_ (a' := ?_) ?_ ?_
              rotate_left
              · show Act.put _ (some 39) _ = _
                simp only [Act.put, List.setIfInBounds_toArray, List.set_cons_zero, List.set_cons_succ, i64_w, i32_w]
                rfl
              refine qU 6 (some 40) rfl rfl HT_.out ?_
              refine qU 7 (some 41) rfl rfl HT_.out ?_
              refine qU 8 (some 42) rfl rfl HT_.out ?_
              refine qU 10 (some 44) rfl rfl HT_.out ?_
              refine qU 11 (some 45) rfl rfl HT_.out ?_
              refine qT5 9 (some 43) rfl rfl HT_.out HW_.out hHeld ?_
              refine qT5 12 (some 46) rfl rfl HT_.out HW_.out hHeld ?_
              refine qU 13 (some 47) rfl rfl HT_.out ?_
              refine qU 14 (some 48) rfl rfl HT_.out ?_
              refine qT5 15 (some 49) rfl rfl HT_.out HW_.out hHeld ?_
              refine qU 16 (some 50) rfl rfl HT_.out ?_
              refine qU 17 (some 51) rfl rfl HT_.out ?_
              refine one_ (i := 18) (N := some 52) #[T,T,T,T,T,T,T,T,T,T,T,T,T,T,T,T,T,T,T,F,F,F,F,F,F,F,F,F,F,F] rfl rfl (one_of HT_.out (by kernel_rfl)) (by decide) (fun K hK => ?_)
              refine goes_ Tryd.func47 (by kernel_rfl) rfl #[.int .i64 ((rd_T48 l1 x7_2).f2), .int .i64 0, .int .i64 (wrap64 ((((rd_T46 l0 ((rd_T48 l1 x7_2).f0)).f1).length : Int) - 1))] (by rfl) rfl rfl nM ?_
              with_reducible refine (spec_l01In.calls ((rd_T48 l1 x7_2).f2) 0 (wrap64 ((((rd_T46 l0 ((rd_T48 l1 x7_2).f0)).f1).length : Int) - 1)) false _ A22.out).mono ?_
              rintro e w' ⟨rfl, ⟨nd, rfl⟩⟩
              refine ⟨_, rfl, ?_⟩
              refine hK.out _ _ ⟨(blk_cell BK365.out 0).trans rfl, (blk_cell BK365.out 1).trans rfl, (blk_cell BK365.out 2).trans rfl, (nC HB.out hw367_0 :), (nC HB.out hw367_1 :)⟩ (fun hHeld => ?_)
              clear hK K
              refine norm_ (a' := ?_) ?_ ?_
              rotate_left
              · show Act.put _ (some 52) _ = _
                simp only [Act.put, List.setIfInBounds_toArray, List.set_cons_zero, List.set_cons_succ, i64_w, i32_w]
                rfl
              refine qU 19 (some 53) rfl rfl HT_.out ?_
              refine qU 20 (some 54) rfl rfl HT_.out ?_
              refine qU 21 (some 55) rfl rfl HT_.out ?_
              refine qV 22 (some 56) rfl rfl HT_.out ?_
              refine qV 23 (some 57) rfl rfl HT_.out ?_
              refine qV 24 (some 58) rfl rfl HT_.out ?_
              refine qV 25 (some 59) rfl rfl HT_.out ?_
              refine qV 26 (some 60) rfl rfl HT_.out ?_
              refine qV 27 (some 61) rfl rfl HT_.out ?_
              refine qV 28 (some 62) rfl rfl HT_.out ?_
              refine qU 29 (some 63) rfl rfl HT_.out ?_
              refine done_ (done_of HT_.out (by kernel_rfl)) ?_
              try go_wp2
              go_meet
              case rel => exact ⟨_, (true), nS, H', ⟨by have := HJ3.out; have := HK2.out; first | omega | exact Nat.le_refl _⟩, ⟨by exact nB BK365.out⟩, ⟨nH1 HB.out GE365.out⟩⟩
          · replace c19 := Bool.eq_false_iff.mpr c19
            subst c19
            rw [if_neg nN] at H
            have H' := aM H
            clear H
            try go_wp2
            have n0_ : Aside0 ((((w16.setCell ⟨gb365, 0, none⟩ (.int .i64 ((rd_T48 l1 x7_2).f0))).setCell ⟨gb365, 1, none⟩ (.int .i64 ((rd_T48 l1 x7_2).f1))).setCell ⟨gb365, 2, none⟩ (.int .i64 ((rd_T48 l1 x7_2).f2))).heap[gb365]? = some (.cells #[.int .i64 ((rd_T48 l1 x7_2).f0), .int .i64 ((rd_T48 l1 x7_2).f1), .int .i64 ((rd_T48 l1 x7_2).f2)] 48 (0, 0))) := ⟨by refine nE ?_; refine blk_put (cs := #[.int .i64 ((rd_T48 l1 x7_2).f0), .int .i64 ((rd_T48 l1 x7_2).f1), .int .i64 0]) ?_ 2 _ rfl; refine nE ?_; refine blk_put (cs := #[.int .i64 ((rd_T48 l1 x7_2).f0), .int .i64 0, .int .i64 0]) ?_ 1 _ rfl; refine nE ?_; refine blk_put (cs := #[.int .i64 0, .int .i64 0, .int .i64 0]) ?_ 0 _ rfl; exact nB BK365.out⟩
            have n1_ : Aside0 (Below w.heap.size w (((w16.setCell ⟨gb365, 0, none⟩ (.int .i64 ((rd_T48 l1 x7_2).f0))).setCell ⟨gb365, 1, none⟩ (.int .i64 ((rd_T48 l1 x7_2).f1))).setCell ⟨gb365, 2, none⟩ (.int .i64 ((rd_T48 l1 x7_2).f2)))) := ⟨nH1 HB.out GE365.out⟩
            (try clear BK365); (try clear HB)
            generalize (((w16.setCell ⟨gb365, 0, none⟩ (.int .i64 ((rd_T48 l1 x7_2).f0))).setCell ⟨gb365, 1, none⟩ (.int .i64 ((rd_T48 l1 x7_2).f1))).setCell ⟨gb365, 2, none⟩ (.int .i64 ((rd_T48 l1 x7_2).f2))) = w29 at n0_ n1_ ⊢
            have BK365 := n0_; have HB := n1_; clear n0_ n1_
            have n_ := aA (blk_drew BK365.out) <| aM (below_drew1 HB.out); clear BK365 HB; obtain ⟨BK365, HB⟩ := n_
            refine start_ (n := 30) (S := fun w' => w'.cell? ⟨gb365, 0, none⟩ = some (.int .i64 ((rd_T48 l1 x7_2).f0)) ∧ w'.cell? ⟨gb365, 1, none⟩ = some (.int .i64 ((rd_T48 l1 x7_2).f1)) ∧ w'.cell? ⟨gb365, 2, none⟩ = some (.int .i64 ((rd_T48 l1 x7_2).f2))) (ds := []) #[F,F,F,F,F,F,F,F,F,F,F,F,F,F,F,F,F,F,F,F,F,F,F,F,F,F,F,F,F,F] (by kernel_rfl) rfl rfl ⟨(blk_cell BK365.out 0).trans rfl, (blk_cell BK365.out 1).trans rfl, (blk_cell BK365.out 2).trans rfl⟩ (fun hHeld => ?_); refine with_tabW spec_LegsOk.tab7 spec_LegsOk.bits7 (fun HT_ HW_ => ?_)
            generalize w29.drew = w30 at BK365 HB hHeld ⊢
            refine qU 0 (some 34) rfl rfl HT_.out ?_
            refine qU 2 (some 36) rfl rfl HT_.out ?_
            refine qU 3 (some 37) rfl rfl HT_.out ?_
            refine qU 4 (some 38) rfl rfl HT_.out ?_
            refine qT3 1 (some 35) rfl rfl HT_.out HW_.out hHeld ?_
            refine one_ (i := 5) (N := some 39) #[T,T,T,T,T,T,F,F,F,F,F,F,F,F,F,F,F,F,F,F,F,F,F,F,F,F,F,F,F,F] rfl rfl (one_of HT_.out (by kernel_rfl)) (by decide) (fun K hK => ?_)
            refine goes_ Tryd.func47 (by kernel_rfl) rfl #[.int .i64 ((rd_T48 l1 x7_2).f0), .int .i64 0, .int .i64 (wrap64 ((l0.length : Int) - 1))] (by rfl) rfl rfl nM ?_
            with_reducible refine (spec_l01In.calls ((rd_T48 l1 x7_2).f0) 0 (wrap64 ((l0.length : Int) - 1)) false _ A18.out).mono ?_
            rintro e w' ⟨rfl, ⟨nd, rfl⟩⟩
            refine ⟨_, rfl, ?_⟩
            refine hK.out _ _ ⟨(blk_cell BK365.out 0).trans rfl, (blk_cell BK365.out 1).trans rfl, (blk_cell BK365.out 2).trans rfl⟩ (fun hHeld => ?_)
            clear hK K
            refine norm_ (a' := ?_) ?_ ?_
            rotate_left
            · show Act.put _ (some 39) _ = _
              simp only [Act.put, List.setIfInBounds_toArray, List.set_cons_zero, List.set_cons_succ, i64_w, i32_w]
              rfl
            refine qU 6 (some 40) rfl rfl HT_.out ?_
            refine qU 7 (some 41) rfl rfl HT_.out ?_
            refine qV 8 (some 42) rfl rfl HT_.out ?_
            refine qV 9 (some 43) rfl rfl HT_.out ?_
            refine qV 10 (some 44) rfl rfl HT_.out ?_
            refine qV 11 (some 45) rfl rfl HT_.out ?_
            refine qV 12 (some 46) rfl rfl HT_.out ?_
            refine qV 13 (some 47) rfl rfl HT_.out ?_
            refine qV 14 (some 48) rfl rfl HT_.out ?_
            refine qV 15 (some 49) rfl rfl HT_.out ?_
            refine qV 16 (some 50) rfl rfl HT_.out ?_
            refine qV 17 (some 51) rfl rfl HT_.out ?_
            refine qV 18 (some 52) rfl rfl HT_.out ?_
            refine qV 19 (some 53) rfl rfl HT_.out ?_
            refine qU 20 (some 54) rfl rfl HT_.out ?_
            refine qU 21 (some 55) rfl rfl HT_.out ?_
            refine qV 22 (some 56) rfl rfl HT_.out ?_
            refine qV 23 (some 57) rfl rfl HT_.out ?_
            refine qV 24 (some 58) rfl rfl HT_.out ?_
            refine qV 25 (some 59) rfl rfl HT_.out ?_
            refine qV 26 (some 60) rfl rfl HT_.out ?_
            refine qV 27 (some 61) rfl rfl HT_.out ?_
            refine qV 28 (some 62) rfl rfl HT_.out ?_
            refine qU 29 (some 63) rfl rfl HT_.out ?_
            refine done_ (done_of HT_.out (by kernel_rfl)) ?_
            try go_wp2
            go_meet
            case rel => exact ⟨_, (true), nS, H', ⟨by have := HJ3.out; have := HK2.out; first | omega | exact Nat.le_refl _⟩, ⟨by exact nB BK365.out⟩, ⟨nH1 HB.out GE365.out⟩⟩
         case rest =>
          clear HC15; try clear c1; try clear c2; try clear p2; try clear c3; try clear p3; try clear q3; try clear hx3; try clear c4; try clear p6; try clear c19; try clear c20; try clear c21; try clear c23; try clear hx367_0; try clear hx367_1; try clear p367; try clear q367
          obtain ⟨kq, x63_14, rfl, HA, HJ14, BK365, HB⟩ := hcut
          cases kq with
          | zero => exact absurd HA.out (by simp [spec_LegsOk.j2])
          | succ kj14 =>
           have H := HA.out; clear HA
           simp only [spec_LegsOk.j2] at H
           by_cases c31 : x63_14 = true
           · subst c31
             rw [if_pos rfl] at H; obtain rfl := Option.some.inj H; go_wp2; go_ret
             exact ⟨by first | rfl | (simp [errW_none, errW_some] <;> rfl) | (simp [*, errW_none, errW_some] <;> first | rfl | (simp [wrap64]; done)), nH1 HB.out GE365.out⟩
           · replace c31 := Bool.eq_false_iff.mpr c31
             subst c31
             rw [if_neg nN] at H
             by_cases c32 : x7_2 > 0
             · rw [if_pos c32] at H
               have c32b0 : decide (0 < x7_2) = true := decide_eq_true c32
               clear c32
               obtain ⟨ji33, hji33⟩ : ∃ j_ : Int, (wrap64 (x7_2 - 1)) = j_ := ⟨_, rfl⟩
               replace H : (if 0 ≤ (ji33) then (if (ji33) < (l1.length : Int) then (if 0 ≤ ((rd_T48 l1 (ji33)).f0) then (if ((rd_T48 l1 (ji33)).f0) < (l0.length : Int) then (if 0 ≤ ((rd_T48 l1 (ji33)).f2) then (if ((rd_T48 l1 (ji33)).f2) < (((rd_T46 l0 ((rd_T48 l1 (ji33)).f0)).f1).length : Int) then (if 0 ≤ ((rd_T48 l1 x7_2).f0) then (if ((rd_T48 l1 x7_2).f0) < (l0.length : Int) then (if 0 ≤ ((rd_T48 l1 x7_2).f1) then (if ((rd_T48 l1 x7_2).f1) < (((rd_T46 l0 ((rd_T48 l1 x7_2).f0)).f1).length : Int) then (if ((rd_T43 ((rd_T46 l0 ((rd_T48 l1 (ji33)).f0)).f1) ((rd_T48 l1 (ji33)).f2)).f0) = ((rd_T43 ((rd_T46 l0 ((rd_T48 l1 x7_2).f0)).f1) ((rd_T48 l1 x7_2).f1)).f0) then (if ((rd_T43 ((rd_T46 l0 ((rd_T48 l1 x7_2).f0)).f1) ((rd_T48 l1 x7_2).f1)).f2) < (wrap64 (((rd_T43 ((rd_T46 l0 ((rd_T48 l1 (ji33)).f0)).f1) ((rd_T48 l1 (ji33)).f2)).f1) + a2)) then (some false) else (spec_LegsOk.l0 kj14 l0 l1 a2 (wrap64 (x7_2 + 1)))) else (some false)) else (none)) else (none)) else (none)) else (none)) else (none)) else (none)) else (none)) else (none)) else (none)) else (none)) = some r := by first | (rw [hji33] at H; exact H) | (simp only [hji33] at H ⊢; exact H)
               have hji33w : (IntKind.i64.wrap (x7_2 - 1)) = ji33 := (i64_w _).trans hji33
               by_cases c34 : 0 ≤ (ji33)
               rotate_left
               · (rw [if_neg c34] at H; exact absurd H (by simp))
               rw [if_pos c34] at H
               have c34b0 : decide (0 ≤ (ji33)) = true := decide_eq_true c34
               clear c34
               by_cases c35 : (ji33) < (l1.length : Int)
               rotate_left
               · (rw [if_neg c35] at H; exact absurd H (by simp))
               rw [if_pos c35] at H
               have c35b0 : decide ((ji33) < (l1.length : Int)) = true := decide_eq_true c35
               clear c35
               by_cases c36 : 0 ≤ ((rd_T48 l1 (ji33)).f0)
               rotate_left
               · (rw [if_neg c36] at H; exact absurd H (by simp))
               rw [if_pos c36] at H
               have c36b0 : decide (0 ≤ ((rd_T48 l1 (ji33)).f0)) = true := decide_eq_true c36
               clear c36
               by_cases c37 : ((rd_T48 l1 (ji33)).f0) < (l0.length : Int)
               rotate_left
               · (rw [if_neg c37] at H; exact absurd H (by simp))
               rw [if_pos c37] at H
               have c37b0 : decide (((rd_T48 l1 (ji33)).f0) < (l0.length : Int)) = true := decide_eq_true c37
               clear c37
               by_cases c38 : 0 ≤ ((rd_T48 l1 (ji33)).f2)
               rotate_left
               · (rw [if_neg c38] at H; exact absurd H (by simp))
               rw [if_pos c38] at H
               have c38b0 : decide (0 ≤ ((rd_T48 l1 (ji33)).f2)) = true := decide_eq_true c38
               clear c38
               by_cases c39 : ((rd_T48 l1 (ji33)).f2) < (((rd_T46 l0 ((rd_T48 l1 (ji33)).f0)).f1).length : Int)
               rotate_left
               · (rw [if_neg c39] at H; exact absurd H (by simp))
               rw [if_pos c39] at H
               have c39b0 : decide (((rd_T48 l1 (ji33)).f2) < (((rd_T46 l0 ((rd_T48 l1 (ji33)).f0)).f1).length : Int)) = true := decide_eq_true c39
               clear c39
               by_cases c40 : 0 ≤ ((rd_T48 l1 x7_2).f0)
               rotate_left
               · (rw [if_neg c40] at H; exact absurd H (by simp))
               rw [if_pos c40] at H
               have c40b0 : decide (0 ≤ ((rd_T48 l1 x7_2).f0)) = true := decide_eq_true c40
               clear c40
               by_cases c41 : ((rd_T48 l1 x7_2).f0) < (l0.length : Int)
               rotate_left
               · (rw [if_neg c41] at H; exact absurd H (by simp))
               rw [if_pos c41] at H
               have c41b0 : decide (((rd_T48 l1 x7_2).f0) < (l0.length : Int)) = true := decide_eq_true c41
               clear c41
               by_cases c42 : 0 ≤ ((rd_T48 l1 x7_2).f1)
               rotate_left
               · (rw [if_neg c42] at H; exact absurd H (by simp))
               rw [if_pos c42] at H
               have c42b0 : decide (0 ≤ ((rd_T48 l1 x7_2).f1)) = true := decide_eq_true c42
               clear c42
               by_cases c43 : ((rd_T48 l1 x7_2).f1) < (((rd_T46 l0 ((rd_T48 l1 x7_2).f0)).f1).length : Int)
               rotate_left
               · (rw [if_neg c43] at H; exact absurd H (by simp))
               rw [if_pos c43] at H
               have c43b0 : decide (((rd_T48 l1 x7_2).f1) < (((rd_T46 l0 ((rd_T48 l1 x7_2).f0)).f1).length : Int)) = true := decide_eq_true c43
               clear c43
               by_cases c44 : ((rd_T43 ((rd_T46 l0 ((rd_T48 l1 (ji33)).f0)).f1) ((rd_T48 l1 (ji33)).f2)).f0) = ((rd_T43 ((rd_T46 l0 ((rd_T48 l1 x7_2).f0)).f1) ((rd_T48 l1 x7_2).f1)).f0)
               · rw [if_pos c44] at H
                 have c44b0 : (((rd_T43 ((rd_T46 l0 ((rd_T48 l1 (ji33)).f0)).f1) ((rd_T48 l1 (ji33)).f2)).f0) == ((rd_T43 ((rd_T46 l0 ((rd_T48 l1 x7_2).f0)).f1) ((rd_T48 l1 x7_2).f1)).f0)) = true := beq_iff_eq.mpr c44
                 have c44b1 : (((rd_T43 ((rd_T46 l0 ((rd_T48 l1 (ji33)).f0)).f1) ((rd_T48 l1 (ji33)).f2)).f0) != ((rd_T43 ((rd_T46 l0 ((rd_T48 l1 x7_2).f0)).f1) ((rd_T48 l1 x7_2).f1)).f0)) = false := bne_eq_false_iff_eq.mpr c44
                 clear c44
                 by_cases c45 : ((rd_T43 ((rd_T46 l0 ((rd_T48 l1 x7_2).f0)).f1) ((rd_T48 l1 x7_2).f1)).f2) < (wrap64 (((rd_T43 ((rd_T46 l0 ((rd_T48 l1 (ji33)).f0)).f1) ((rd_T48 l1 (ji33)).f2)).f1) + a2))
                 · rw [if_pos c45] at H
                   have c45b0 : decide (((rd_T43 ((rd_T46 l0 ((rd_T48 l1 x7_2).f0)).f1) ((rd_T48 l1 x7_2).f1)).f2) < (wrap64 (((rd_T43 ((rd_T46 l0 ((rd_T48 l1 (ji33)).f0)).f1) ((rd_T48 l1 (ji33)).f2)).f1) + a2))) = true := decide_eq_true c45
                   clear c45; obtain rfl := Option.some.inj H
                   try go_wp2
                   have n_ := aA (blk_drew BK365.out) <| aM (below_drew1 HB.out); clear BK365 HB; obtain ⟨BK365, HB⟩ := n_
                   have p370 : 0 ≤ ((ji33) : Int) := of_decide_eq_true nQ
                   have q370 : (ji33) < (l1.length : Int) := of_decide_eq_true nQ
                   obtain ⟨ad370, e370, hx370_0, hx370_1, hx370_2⟩ := at_T48 HR1.out (ji33) p370 q370
                   have hw370_2 := hx370_2; have hw370_1 := hx370_1; have hw370_0 := hx370_0
                   obtain rfl : ad364 = ad370 := (by injection e370)
                   replace hx370_0 := (HB.out.cell (World.block_lt_of_cell? w _ hx370_0)).trans hx370_0
                   replace hx370_1 := (HB.out.cell (World.block_lt_of_cell? w _ hx370_1)).trans hx370_1
                   replace hx370_2 := (HB.out.cell (World.block_lt_of_cell? w _ hx370_2)).trans hx370_2
                   replace p370 := eq_true p370; replace q370 := eq_true q370
                   have p371 : 0 ≤ (((rd_T48 l1 (ji33)).f0) : Int) := of_decide_eq_true nQ
                   have q371 : ((rd_T48 l1 (ji33)).f0) < (l0.length : Int) := of_decide_eq_true nQ
                   obtain ⟨ad371, A371_1, c371_1, e371, hx371_0, hx371_1, hl371_1, hi371_1⟩ := at_T46 HR0.out ((rd_T48 l1 (ji33)).f0) p371 q371
                   have hw371_1 := hx371_1; have hw371_0 := hx371_0; cases e371
                   replace hx371_0 := (HB.out.cell (World.block_lt_of_cell? w _ hx371_0)).trans hx371_0
                   replace hx371_1 := (HB.out.cell (World.block_lt_of_cell? w _ hx371_1)).trans hx371_1
                   have HR371_1 := aM hi371_1
                   have HC371_1 := aM hl371_1
                   clear hi371_1 hl371_1; replace p371 := eq_true p371; replace q371 := eq_true q371
                   have p372 : 0 ≤ ((ji33) : Int) := of_decide_eq_true nQ
                   have q372 : (ji33) < (l1.length : Int) := of_decide_eq_true nQ
                   obtain ⟨ad372, e372, hx372_0, hx372_1, hx372_2⟩ := at_T48 HR1.out (ji33) p372 q372
                   have hw372_2 := hx372_2; have hw372_1 := hx372_1; have hw372_0 := hx372_0
                   obtain rfl : ad364 = ad372 := (by injection e372)
                   replace hx372_0 := (HB.out.cell (World.block_lt_of_cell? w _ hx372_0)).trans hx372_0
                   replace hx372_1 := (HB.out.cell (World.block_lt_of_cell? w _ hx372_1)).trans hx372_1
                   replace hx372_2 := (HB.out.cell (World.block_lt_of_cell? w _ hx372_2)).trans hx372_2
                   replace p372 := eq_true p372; replace q372 := eq_true q372
                   have p373 : 0 ≤ (((rd_T48 l1 (ji33)).f2) : Int) := of_decide_eq_true nQ
                   have q373 : ((rd_T48 l1 (ji33)).f2) < (((rd_T46 l0 ((rd_T48 l1 (ji33)).f0)).f1).length : Int) := of_decide_eq_true nQ
                   obtain ⟨ad373, e373, hx373_0, hx373_1, hx373_2⟩ := at_T43 HR371_1.out ((rd_T48 l1 (ji33)).f2) p373 q373
                   have hw373_2 := hx373_2; have hw373_1 := hx373_1; have hw373_0 := hx373_0; cases e373
                   replace hx373_0 := (HB.out.cell (World.block_lt_of_cell? w _ hx373_0)).trans hx373_0
                   replace hx373_1 := (HB.out.cell (World.block_lt_of_cell? w _ hx373_1)).trans hx373_1
                   replace hx373_2 := (HB.out.cell (World.block_lt_of_cell? w _ hx373_2)).trans hx373_2
                   replace p373 := eq_true p373; replace q373 := eq_true q373
                   refine start_ (n := 20) (S := fun w' => w'.cell? (ad364.add (((ji33)).toNat * 3)) = some (.int .i64 ((rd_T48 l1 (ji33)).f0)) ∧ w'.cell? ⟨(ad364.add (((ji33)).toNat * 3)).block, (ad364.add (((ji33)).toNat * 3)).off + 1, none⟩ = some (.int .i64 ((rd_T48 l1 (ji33)).f1)) ∧ w'.cell? ⟨(ad364.add (((ji33)).toNat * 3)).block, (ad364.add (((ji33)).toNat * 3)).off + 2, none⟩ = some (.int .i64 ((rd_T48 l1 (ji33)).f2)) ∧ w'.cell? (ad371.add ((((rd_T48 l1 (ji33)).f0)).toNat * 2)) = some (.string ((rd_T46 l0 ((rd_T48 l1 (ji33)).f0)).f0)) ∧ w'.cell? ⟨(ad371.add ((((rd_T48 l1 (ji33)).f0)).toNat * 2)).block, (ad371.add ((((rd_T48 l1 (ji33)).f0)).toNat * 2)).off + 1, none⟩ = some (.slice (some ad373) ((rd_T46 l0 ((rd_T48 l1 (ji33)).f0)).f1).length c371_1) ∧ w'.cell? (ad364.add (((ji33)).toNat * 3)) = some (.int .i64 ((rd_T48 l1 (ji33)).f0)) ∧ w'.cell? ⟨(ad364.add (((ji33)).toNat * 3)).block, (ad364.add (((ji33)).toNat * 3)).off + 1, none⟩ = some (.int .i64 ((rd_T48 l1 (ji33)).f1)) ∧ w'.cell? ⟨(ad364.add (((ji33)).toNat * 3)).block, (ad364.add (((ji33)).toNat * 3)).off + 2, none⟩ = some (.int .i64 ((rd_T48 l1 (ji33)).f2)) ∧ w'.cell? (ad373.add ((((rd_T48 l1 (ji33)).f2)).toNat * 3)) = some (.int .i64 ((rd_T43 ((rd_T46 l0 ((rd_T48 l1 (ji33)).f0)).f1) ((rd_T48 l1 (ji33)).f2)).f0)) ∧ w'.cell? ⟨(ad373.add ((((rd_T48 l1 (ji33)).f2)).toNat * 3)).block, (ad373.add ((((rd_T48 l1 (ji33)).f2)).toNat * 3)).off + 1, none⟩ = some (.int .i64 ((rd_T43 ((rd_T46 l0 ((rd_T48 l1 (ji33)).f0)).f1) ((rd_T48 l1 (ji33)).f2)).f1)) ∧ w'.cell? ⟨(ad373.add ((((rd_T48 l1 (ji33)).f2)).toNat * 3)).block, (ad373.add ((((rd_T48 l1 (ji33)).f2)).toNat * 3)).off + 2, none⟩ = some (.int .i64 ((rd_T43 ((rd_T46 l0 ((rd_T48 l1 (ji33)).f0)).f1) ((rd_T48 l1 (ji33)).f2)).f2))) (ds := []) #[F,F,F,F,F,F,F,F,F,F,F,F,F,F,F,F,F,F,F,F] (by kernel_rfl) rfl rfl ⟨(nC HB.out hw370_0 :), (nC HB.out hw370_1 :), (nC HB.out hw370_2 :), (nC HB.out hw371_0 :), (nC HB.out hw371_1 :), (nC HB.out hw372_0 :), (nC HB.out hw372_1 :), (nC HB.out hw372_2 :), (nC HB.out hw373_0 :), (nC HB.out hw373_1 :), (nC HB.out hw373_2 :)⟩ (fun hHeld => ?_); refine with_tabW spec_LegsOk.tab10 spec_LegsOk.bits10 (fun HT_ HW_ => ?_)
                   generalize wc.drew = w46 at BK365 HB HR371_1 hx370_0 hx370_1 hx370_2 hx371_0 hx371_1 hx372_0 hx372_1 hx372_2 hx373_0 hx373_1 hx373_2 hHeld ⊢
                   refine qU 0 (some 66) rfl rfl HT_.out ?_
                   refine qU 1 (some 67) rfl rfl HT_.out ?_
                   refine qU 2 (some 68) rfl rfl HT_.out ?_
                   refine qU 3 (some 69) rfl rfl HT_.out ?_
                   refine qU 4 (some 70) rfl rfl HT_.out ?_
                   refine qU 5 (some 71) rfl rfl HT_.out ?_
                   refine qU 10 (some 76) rfl rfl HT_.out ?_
                   refine qU 11 (some 77) rfl rfl HT_.out ?_
                   refine qU 12 (some 78) rfl rfl HT_.out ?_
                   refine qU 13 (some 79) rfl rfl HT_.out ?_
                   refine qU 14 (some 80) rfl rfl HT_.out ?_
                   refine qT11 6 (some 72) rfl rfl HT_.out HW_.out hHeld ?_
                   refine qU 7 (some 73) rfl rfl HT_.out ?_
                   refine qU 8 (some 74) rfl rfl HT_.out ?_
                   refine qT11 9 (some 75) rfl rfl HT_.out HW_.out hHeld ?_
                   refine qT11 15 (some 81) rfl rfl HT_.out HW_.out hHeld ?_
                   refine qU 16 (some 82) rfl rfl HT_.out ?_
                   refine qT11 17 (some 83) rfl rfl HT_.out HW_.out hHeld ?_
                   refine one_ (i := 18) (N := some 9) #[T,T,T,T,T,T,T,T,T,T,T,T,T,T,T,T,T,T,T,F] rfl rfl (one_of HT_.out (by kernel_rfl)) (by decide) (fun K hK => ?_)
                   refine box_step ?hg (N := 9) ?hd (cs := #[.int .i64 0, .int .i64 0, .int .i64 0]) (t := 43) ?hr ?_; (case hd => rfl); (case hg => rfl); (case hr => first | (go_simp; done) | (go_simp; rfl))
                   intro gb374 hg w47 hbox hb
                   have n_ := aA (nBB BK365.out hb) <| aA (below_step (nH1 HB.out GE365.out) hb) <| aA (hbox) <| aA (bS hg (nH1 HB.out GE365.out)) <| aA (bS hg (nH1 HB.out GE365.out)) <| aA (nBL BK365.out hg) <| aM (by rw [hg]; exact Nat.ne_of_gt (blk_lt (g := gb365) (o := .cells #[.int .i64 ((rd_T48 l1 x7_2).f0), .int .i64 ((rd_T48 l1 x7_2).f1), .int .i64 ((rd_T48 l1 x7_2).f2)] 48 (0, 0)) (nB BK365.out)) : gb374 ≠ gb365); clear BK365 HB; obtain ⟨BK365, HB, BK374, GW374, GE374, NB365_374, NB374_365⟩ := n_; clear hb hbox hg
                   refine hK.out _ _ ⟨(nC HB.out hw370_0 :), (nC HB.out hw370_1 :), (nC HB.out hw370_2 :), (nC HB.out hw371_0 :), (nC HB.out hw371_1 :), (nC HB.out hw372_0 :), (nC HB.out hw372_1 :), (nC HB.out hw372_2 :), (nC HB.out hw373_0 :), (nC HB.out hw373_1 :), (nC HB.out hw373_2 :)⟩ (fun hHeld => ?_)
                   clear hK K
                   refine norm_ (a' := ?_) ?_ ?_
                   rotate_left
                   · show Act.put _ (some 9) _ = _
                     simp only [Act.put, List.setIfInBounds_toArray, List.set_cons_zero, List.set_cons_succ, i64_w, i32_w]
                     rfl
                   refine one_ (i := 19) (N := none) #[T,T,T,T,T,T,T,T,T,T,T,T,T,T,T,T,T,T,T,T] rfl rfl (one_of HT_.out (by kernel_rfl)) (by decide) (fun K hK => ?_)
                   have hs48 : w47.cell? ⟨gb374, 0, none⟩ = some (.int .i64 0) := (blk_cell BK374.out 0).trans rfl
                   have hfs48 := blk_frozen BK374.out 0
                   have hns48_0 := NB365_374.out; have hms48_0 := NB374_365.out
                   have hs49 : w47.cell? ⟨gb374, 1, none⟩ = some (.int .i64 0) := (blk_cell BK374.out 1).trans rfl
                   have hfs49 := blk_frozen BK374.out 1
                   have hns49_0 := NB365_374.out; have hms49_0 := NB374_365.out
                   have hs50 : w47.cell? ⟨gb374, 2, none⟩ = some (.int .i64 0) := (blk_cell BK374.out 2).trans rfl
                   have hfs50 := blk_frozen BK374.out 2
                   have hns50_0 := NB365_374.out; have hms50_0 := NB374_365.out
                   refine skip_ (w1 := ?_) (by rfl) rfl ?_ ?_
                   rotate_left
                   · go_simp; rfl
                   refine hK.out _ _ ⟨((nF gb374 hw370_0 GW374.out).trans (((nF gb374 hw370_0 GW374.out).trans (((nF gb374 hw370_0 GW374.out).trans (hHeld.1)))))), ((nF gb374 hw370_1 GW374.out).trans (((nF gb374 hw370_1 GW374.out).trans (((nF gb374 hw370_1 GW374.out).trans (hHeld.2.1)))))), ((nF gb374 hw370_2 GW374.out).trans (((nF gb374 hw370_2 GW374.out).trans (((nF gb374 hw370_2 GW374.out).trans (hHeld.2.2.1)))))), ((nF gb374 hw371_0 GW374.out).trans (((nF gb374 hw371_0 GW374.out).trans (((nF gb374 hw371_0 GW374.out).trans (hHeld.2.2.2.1)))))), ((nF gb374 hw371_1 GW374.out).trans (((nF gb374 hw371_1 GW374.out).trans (((nF gb374 hw371_1 GW374.out).trans (hHeld.2.2.2.2.1)))))), ((nF gb374 hw372_0 GW374.out).trans (((nF gb374 hw372_0 GW374.out).trans (((nF gb374 hw372_0 GW374.out).trans (hHeld.2.2.2.2.2.1)))))), ((nF gb374 hw372_1 GW374.out).trans (((nF gb374 hw372_1 GW374.out).trans (((nF gb374 hw372_1 GW374.out).trans (hHeld.2.2.2.2.2.2.1)))))), ((nF gb374 hw372_2 GW374.out).trans (((nF gb374 hw372_2 GW374.out).trans (((nF gb374 hw372_2 GW374.out).trans (hHeld.2.2.2.2.2.2.2.1)))))), ((nF gb374 hw373_0 GW374.out).trans (((nF gb374 hw373_0 GW374.out).trans (((nF gb374 hw373_0 GW374.out).trans (hHeld.2.2.2.2.2.2.2.2.1)))))), ((nF gb374 hw373_1 GW374.out).trans (((nF gb374 hw373_1 GW374.out).trans (((nF gb374 hw373_1 GW374.out).trans (hHeld.2.2.2.2.2.2.2.2.2.1)))))), ((nF gb374 hw373_2 GW374.out).trans (((nF gb374 hw373_2 GW374.out).trans (((nF gb374 hw373_2 GW374.out).trans (hHeld.2.2.2.2.2.2.2.2.2.2))))))⟩ (fun hHeld => ?_)
                   clear hK K
                   refine done_ (done_of HT_.out (by kernel_rfl)) ?_
                   try go_wp2
                   have n0_ : Aside0 ((((w47.setCell ⟨gb374, 0, none⟩ (.int .i64 ((rd_T43 ((rd_T46 l0 ((rd_T48 l1 (ji33)).f0)).f1) ((rd_T48 l1 (ji33)).f2)).f0))).setCell ⟨gb374, 1, none⟩ (.int .i64 ((rd_T43 ((rd_T46 l0 ((rd_T48 l1 (ji33)).f0)).f1) ((rd_T48 l1 (ji33)).f2)).f1))).setCell ⟨gb374, 2, none⟩ (.int .i64 ((rd_T43 ((rd_T46 l0 ((rd_T48 l1 (ji33)).f0)).f1) ((rd_T48 l1 (ji33)).f2)).f2))).heap[gb365]? = some (.cells #[.int .i64 ((rd_T48 l1 x7_2).f0), .int .i64 ((rd_T48 l1 x7_2).f1), .int .i64 ((rd_T48 l1 x7_2).f2)] 48 (0, 0))) := ⟨by refine nE ?_; refine blk_far ?_ NB365_374.out _; refine nE ?_; refine blk_far ?_ NB365_374.out _; refine nE ?_; refine blk_far ?_ NB365_374.out _; exact nB BK365.out⟩
                   have n1_ : Aside0 ((((w47.setCell ⟨gb374, 0, none⟩ (.int .i64 ((rd_T43 ((rd_T46 l0 ((rd_T48 l1 (ji33)).f0)).f1) ((rd_T48 l1 (ji33)).f2)).f0))).setCell ⟨gb374, 1, none⟩ (.int .i64 ((rd_T43 ((rd_T46 l0 ((rd_T48 l1 (ji33)).f0)).f1) ((rd_T48 l1 (ji33)).f2)).f1))).setCell ⟨gb374, 2, none⟩ (.int .i64 ((rd_T43 ((rd_T46 l0 ((rd_T48 l1 (ji33)).f0)).f1) ((rd_T48 l1 (ji33)).f2)).f2))).heap[gb374]? = some (.cells #[.int .i64 ((rd_T43 ((rd_T46 l0 ((rd_T48 l1 (ji33)).f0)).f1) ((rd_T48 l1 (ji33)).f2)).f0), .int .i64 ((rd_T43 ((rd_T46 l0 ((rd_T48 l1 (ji33)).f0)).f1) ((rd_T48 l1 (ji33)).f2)).f1), .int .i64 ((rd_T43 ((rd_T46 l0 ((rd_T48 l1 (ji33)).f0)).f1) ((rd_T48 l1 (ji33)).f2)).f2)] 43 (0, 0))) := ⟨by refine nE ?_; refine blk_put (cs := #[.int .i64 ((rd_T43 ((rd_T46 l0 ((rd_T48 l1 (ji33)).f0)).f1) ((rd_T48 l1 (ji33)).f2)).f0), .int .i64 ((rd_T43 ((rd_T46 l0 ((rd_T48 l1 (ji33)).f0)).f1) ((rd_T48 l1 (ji33)).f2)).f1), .int .i64 0]) ?_ 2 _ rfl; refine nE ?_; refine blk_put (cs := #[.int .i64 ((rd_T43 ((rd_T46 l0 ((rd_T48 l1 (ji33)).f0)).f1) ((rd_T48 l1 (ji33)).f2)).f0), .int .i64 0, .int .i64 0]) ?_ 1 _ rfl; refine nE ?_; refine blk_put (cs := #[.int .i64 0, .int .i64 0, .int .i64 0]) ?_ 0 _ rfl; exact nB BK374.out⟩
                   have n2_ : Aside0 (Below w.heap.size w (((w47.setCell ⟨gb374, 0, none⟩ (.int .i64 ((rd_T43 ((rd_T46 l0 ((rd_T48 l1 (ji33)).f0)).f1) ((rd_T48 l1 (ji33)).f2)).f0))).setCell ⟨gb374, 1, none⟩ (.int .i64 ((rd_T43 ((rd_T46 l0 ((rd_T48 l1 (ji33)).f0)).f1) ((rd_T48 l1 (ji33)).f2)).f1))).setCell ⟨gb374, 2, none⟩ (.int .i64 ((rd_T43 ((rd_T46 l0 ((rd_T48 l1 (ji33)).f0)).f1) ((rd_T48 l1 (ji33)).f2)).f2)))) := ⟨nH2 HB.out GE365.out GE374.out⟩
                   (try clear BK365); (try clear BK374); (try clear HB)
                   generalize (((w47.setCell ⟨gb374, 0, none⟩ (.int .i64 ((rd_T43 ((rd_T46 l0 ((rd_T48 l1 (ji33)).f0)).f1) ((rd_T48 l1 (ji33)).f2)).f0))).setCell ⟨gb374, 1, none⟩ (.int .i64 ((rd_T43 ((rd_T46 l0 ((rd_T48 l1 (ji33)).f0)).f1) ((rd_T48 l1 (ji33)).f2)).f1))).setCell ⟨gb374, 2, none⟩ (.int .i64 ((rd_T43 ((rd_T46 l0 ((rd_T48 l1 (ji33)).f0)).f1) ((rd_T48 l1 (ji33)).f2)).f2))) = w51 at n0_ n1_ n2_ ⊢
                   have BK365 := n0_; have BK374 := n1_; have HB := n2_; clear n0_ n1_ n2_
                   have n_ := aA (blk_drew BK365.out) <| aA (blk_drew BK374.out) <| aM (below_drew1 HB.out); clear BK365 BK374 HB; obtain ⟨BK365, BK374, HB⟩ := n_
                   have p375 : 0 ≤ (((rd_T48 l1 x7_2).f0) : Int) := of_decide_eq_true nQ
                   have q375 : ((rd_T48 l1 x7_2).f0) < (l0.length : Int) := of_decide_eq_true nQ
                   obtain ⟨ad375, A375_1, c375_1, e375, hx375_0, hx375_1, hl375_1, hi375_1⟩ := at_T46 HR0.out ((rd_T48 l1 x7_2).f0) p375 q375
                   have hw375_1 := hx375_1; have hw375_0 := hx375_0
                   obtain rfl : ad371 = ad375 := (by injection e375)
                   replace hx375_0 := (HB.out.cell (World.block_lt_of_cell? w _ hx375_0)).trans hx375_0
                   replace hx375_1 := (HB.out.cell (World.block_lt_of_cell? w _ hx375_1)).trans hx375_1
                   have HR375_1 := aM hi375_1
                   have HC375_1 := aM hl375_1
                   clear hi375_1 hl375_1; replace p375 := eq_true p375; replace q375 := eq_true q375
                   have p376 : 0 ≤ (((rd_T48 l1 x7_2).f1) : Int) := of_decide_eq_true nQ
                   have q376 : ((rd_T48 l1 x7_2).f1) < (((rd_T46 l0 ((rd_T48 l1 x7_2).f0)).f1).length : Int) := of_decide_eq_true nQ
                   obtain ⟨ad376, e376, hx376_0, hx376_1, hx376_2⟩ := at_T43 HR375_1.out ((rd_T48 l1 x7_2).f1) p376 q376
                   have hw376_2 := hx376_2; have hw376_1 := hx376_1; have hw376_0 := hx376_0; cases e376
                   replace hx376_0 := (HB.out.cell (World.block_lt_of_cell? w _ hx376_0)).trans hx376_0
                   replace hx376_1 := (HB.out.cell (World.block_lt_of_cell? w _ hx376_1)).trans hx376_1
                   replace hx376_2 := (HB.out.cell (World.block_lt_of_cell? w _ hx376_2)).trans hx376_2
                   replace p376 := eq_true p376; replace q376 := eq_true q376
                   refine start_ (n := 12) (S := fun w' => w'.cell? ⟨gb365, 0, none⟩ = some (.int .i64 ((rd_T48 l1 x7_2).f0)) ∧ w'.cell? ⟨gb365, 1, none⟩ = some (.int .i64 ((rd_T48 l1 x7_2).f1)) ∧ w'.cell? ⟨gb365, 2, none⟩ = some (.int .i64 ((rd_T48 l1 x7_2).f2)) ∧ w'.cell? (ad371.add ((((rd_T48 l1 x7_2).f0)).toNat * 2)) = some (.string ((rd_T46 l0 ((rd_T48 l1 x7_2).f0)).f0)) ∧ w'.cell? ⟨(ad371.add ((((rd_T48 l1 x7_2).f0)).toNat * 2)).block, (ad371.add ((((rd_T48 l1 x7_2).f0)).toNat * 2)).off + 1, none⟩ = some (.slice (some ad376) ((rd_T46 l0 ((rd_T48 l1 x7_2).f0)).f1).length c375_1) ∧ w'.cell? (ad376.add ((((rd_T48 l1 x7_2).f1)).toNat * 3)) = some (.int .i64 ((rd_T43 ((rd_T46 l0 ((rd_T48 l1 x7_2).f0)).f1) ((rd_T48 l1 x7_2).f1)).f0)) ∧ w'.cell? ⟨(ad376.add ((((rd_T48 l1 x7_2).f1)).toNat * 3)).block, (ad376.add ((((rd_T48 l1 x7_2).f1)).toNat * 3)).off + 1, none⟩ = some (.int .i64 ((rd_T43 ((rd_T46 l0 ((rd_T48 l1 x7_2).f0)).f1) ((rd_T48 l1 x7_2).f1)).f1)) ∧ w'.cell? ⟨(ad376.add ((((rd_T48 l1 x7_2).f1)).toNat * 3)).block, (ad376.add ((((rd_T48 l1 x7_2).f1)).toNat * 3)).off + 2, none⟩ = some (.int .i64 ((rd_T43 ((rd_T46 l0 ((rd_T48 l1 x7_2).f0)).f1) ((rd_T48 l1 x7_2).f1)).f2))) (ds := []) #[F,F,F,F,F,F,F,F,F,F,F,F] (by kernel_rfl) rfl rfl ⟨(blk_cell BK365.out 0).trans rfl, (blk_cell BK365.out 1).trans rfl, (blk_cell BK365.out 2).trans rfl, (nC HB.out hw375_0 :), (nC HB.out hw375_1 :), (nC HB.out hw376_0 :), (nC HB.out hw376_1 :), (nC HB.out hw376_2 :)⟩ (fun hHeld => ?_); refine with_tabW spec_LegsOk.tab11 spec_LegsOk.bits11 (fun HT_ HW_ => ?_)
                   generalize w51.drew = w52 at BK365 BK374 HB HR375_1 hx375_0 hx375_1 hx376_0 hx376_1 hx376_2 hHeld ⊢
                   refine qU 0 (some 84) rfl rfl HT_.out ?_
                   refine qU 1 (some 85) rfl rfl HT_.out ?_
                   refine qU 6 (some 90) rfl rfl HT_.out ?_
                   refine qT8 2 (some 86) rfl rfl HT_.out HW_.out hHeld ?_
                   refine qU 3 (some 87) rfl rfl HT_.out ?_
                   refine qU 4 (some 88) rfl rfl HT_.out ?_
                   refine qT8 5 (some 89) rfl rfl HT_.out HW_.out hHeld ?_
                   refine qT8 7 (some 91) rfl rfl HT_.out HW_.out hHeld ?_
                   refine qU 8 (some 92) rfl rfl HT_.out ?_
                   refine qT8 9 (some 93) rfl rfl HT_.out HW_.out hHeld ?_
                   refine one_ (i := 10) (N := some 10) #[T,T,T,T,T,T,T,T,T,T,T,F] rfl rfl (one_of HT_.out (by kernel_rfl)) (by decide) (fun K hK => ?_)
                   refine box_step ?hg (N := 10) ?hd (cs := #[.int .i64 0, .int .i64 0, .int .i64 0]) (t := 43) ?hr ?_; (case hd => rfl); (case hg => rfl); (case hr => first | (go_simp; done) | (go_simp; rfl))
                   intro gb377 hg w53 hbox hb
                   have n_ := aA (nBB BK365.out hb) <| aA (nBB BK374.out hb) <| aA (below_step (nH2 HB.out GE365.out GE374.out) hb) <| aA (hbox) <| aA (bS hg (nH2 HB.out GE365.out GE374.out)) <| aA (bS hg (nH2 HB.out GE365.out GE374.out)) <| aA (nBL BK365.out hg) <| aA (by rw [hg]; exact Nat.ne_of_gt (blk_lt (g := gb365) (o := .cells #[.int .i64 ((rd_T48 l1 x7_2).f0), .int .i64 ((rd_T48 l1 x7_2).f1), .int .i64 ((rd_T48 l1 x7_2).f2)] 48 (0, 0)) (nB BK365.out)) : gb377 ≠ gb365) <| aA (nBL BK374.out hg) <| aM (by rw [hg]; exact Nat.ne_of_gt (blk_lt (g := gb374) (o := .cells #[.int .i64 ((rd_T43 ((rd_T46 l0 ((rd_T48 l1 (ji33)).f0)).f1) ((rd_T48 l1 (ji33)).f2)).f0), .int .i64 ((rd_T43 ((rd_T46 l0 ((rd_T48 l1 (ji33)).f0)).f1) ((rd_T48 l1 (ji33)).f2)).f1), .int .i64 ((rd_T43 ((rd_T46 l0 ((rd_T48 l1 (ji33)).f0)).f1) ((rd_T48 l1 (ji33)).f2)).f2)] 43 (0, 0)) (nB BK374.out)) : gb377 ≠ gb374); clear BK365 BK374 HB; obtain ⟨BK365, BK374, HB, BK377, GW377, GE377, NB365_377, NB377_365, NB374_377, NB377_374⟩ := n_; clear hb hbox hg
                   refine hK.out _ _ ⟨(blk_cell BK365.out 0).trans rfl, (blk_cell BK365.out 1).trans rfl, (blk_cell BK365.out 2).trans rfl, (nC HB.out hw375_0 :), (nC HB.out hw375_1 :), (nC HB.out hw376_0 :), (nC HB.out hw376_1 :), (nC HB.out hw376_2 :)⟩ (fun hHeld => ?_)
                   clear hK K
                   refine norm_ (a' := ?_) ?_ ?_
                   rotate_left
                   · show Act.put _ (some 10) _ = _
                     simp only [Act.put, List.setIfInBounds_toArray, List.set_cons_zero, List.set_cons_succ, i64_w, i32_w]
                     rfl
                   refine one_ (i := 11) (N := none) #[T,T,T,T,T,T,T,T,T,T,T,T] rfl rfl (one_of HT_.out (by kernel_rfl)) (by decide) (fun K hK => ?_)
                   have hs54 : w53.cell? ⟨gb377, 0, none⟩ = some (.int .i64 0) := (blk_cell BK377.out 0).trans rfl
                   have hfs54 := blk_frozen BK377.out 0
                   have hns54_0 := NB365_377.out; have hns54_1 := NB374_377.out; have hms54_0 := NB377_365.out; have hms54_1 := NB377_374.out
                   have hs55 : w53.cell? ⟨gb377, 1, none⟩ = some (.int .i64 0) := (blk_cell BK377.out 1).trans rfl
                   have hfs55 := blk_frozen BK377.out 1
                   have hns55_0 := NB365_377.out; have hns55_1 := NB374_377.out; have hms55_0 := NB377_365.out; have hms55_1 := NB377_374.out
                   have hs56 : w53.cell? ⟨gb377, 2, none⟩ = some (.int .i64 0) := (blk_cell BK377.out 2).trans rfl
                   have hfs56 := blk_frozen BK377.out 2
                   have hns56_0 := NB365_377.out; have hns56_1 := NB374_377.out; have hms56_0 := NB377_365.out; have hms56_1 := NB377_374.out
                   refine skip_ (w1 := ?_) (by rfl) rfl ?_ ?_
                   rotate_left
                   · go_simp; rfl
                   refine hK.out _ _ ⟨((cell_far (p := ⟨gb377, _, none⟩) NB365_377.out _).trans (((cell_far (p := ⟨gb377, _, none⟩) NB365_377.out _).trans (((cell_far (p := ⟨gb377, _, none⟩) NB365_377.out _).trans (hHeld.1)))))), ((cell_far (p := ⟨gb377, _, none⟩) NB365_377.out _).trans (((cell_far (p := ⟨gb377, _, none⟩) NB365_377.out _).trans (((cell_far (p := ⟨gb377, _, none⟩) NB365_377.out _).trans (hHeld.2.1)))))), ((cell_far (p := ⟨gb377, _, none⟩) NB365_377.out _).trans (((cell_far (p := ⟨gb377, _, none⟩) NB365_377.out _).trans (((cell_far (p := ⟨gb377, _, none⟩) NB365_377.out _).trans (hHeld.2.2.1)))))), ((nF gb377 hw375_0 GW377.out).trans (((nF gb377 hw375_0 GW377.out).trans (((nF gb377 hw375_0 GW377.out).trans (hHeld.2.2.2.1)))))), ((nF gb377 hw375_1 GW377.out).trans (((nF gb377 hw375_1 GW377.out).trans (((nF gb377 hw375_1 GW377.out).trans (hHeld.2.2.2.2.1)))))), ((nF gb377 hw376_0 GW377.out).trans (((nF gb377 hw376_0 GW377.out).trans (((nF gb377 hw376_0 GW377.out).trans (hHeld.2.2.2.2.2.1)))))), ((nF gb377 hw376_1 GW377.out).trans (((nF gb377 hw376_1 GW377.out).trans (((nF gb377 hw376_1 GW377.out).trans (hHeld.2.2.2.2.2.2.1)))))), ((nF gb377 hw376_2 GW377.out).trans (((nF gb377 hw376_2 GW377.out).trans (((nF gb377 hw376_2 GW377.out).trans (hHeld.2.2.2.2.2.2.2))))))⟩ (fun hHeld => ?_)
                   clear hK K
                   refine done_ (done_of HT_.out (by kernel_rfl)) ?_
                   have hnb57 := NB374_365.out; have hnc57 := NB365_374.out; have hnb58 := NB374_377.out; have hnc58 := NB377_374.out
                   obtain ⟨hcz59_0, hcz59_1, hcz59_2, hfz59_0, hfz59_1, hfz59_2⟩ := nK3 BK374.out
                   have hnb60 := NB377_365.out; have hnc60 := NB365_377.out
                   obtain ⟨hcz61_0, hcz61_1, hcz61_2, hfz61_0, hfz61_1, hfz61_2⟩ := nK3 BK377.out
                   try go_wp2
                   go_ret
                   exact ⟨by first | rfl | (simp [errW_none, errW_some] <;> rfl) | (simp only [← hji33]; first | rfl | (simp [errW_none, errW_some] <;> rfl)) | (simp [*, errW_none, errW_some] <;> first | rfl | (simp [wrap64]; done)), nH3 HB.out GE365.out GE374.out GE377.out⟩
                 · rw [if_neg c45] at H
                   have c45b0 : decide (((rd_T43 ((rd_T46 l0 ((rd_T48 l1 x7_2).f0)).f1) ((rd_T48 l1 x7_2).f1)).f2) < (wrap64 (((rd_T43 ((rd_T46 l0 ((rd_T48 l1 (ji33)).f0)).f1) ((rd_T48 l1 (ji33)).f2)).f1) + a2))) = false := decide_eq_false c45
                   clear c45
                   have H' := aM H
                   clear H
                   try go_wp2
                   have n_ := aA (blk_drew BK365.out) <| aM (below_drew1 HB.out); clear BK365 HB; obtain ⟨BK365, HB⟩ := n_
                   have p370 : 0 ≤ ((ji33) : Int) := of_decide_eq_true nQ
                   have q370 : (ji33) < (l1.length : Int) := of_decide_eq_true nQ
                   obtain ⟨ad370, e370, hx370_0, hx370_1, hx370_2⟩ := at_T48 HR1.out (ji33) p370 q370
                   have hw370_2 := hx370_2; have hw370_1 := hx370_1; have hw370_0 := hx370_0
                   obtain rfl : ad364 = ad370 := (by injection e370)
                   replace hx370_0 := (HB.out.cell (World.block_lt_of_cell? w _ hx370_0)).trans hx370_0
                   replace hx370_1 := (HB.out.cell (World.block_lt_of_cell? w _ hx370_1)).trans hx370_1
                   replace hx370_2 := (HB.out.cell (World.block_lt_of_cell? w _ hx370_2)).trans hx370_2
                   replace p370 := eq_true p370; replace q370 := eq_true q370
                   have p371 : 0 ≤ (((rd_T48 l1 (ji33)).f0) : Int) := of_decide_eq_true nQ
                   have q371 : ((rd_T48 l1 (ji33)).f0) < (l0.length : Int) := of_decide_eq_true nQ
                   obtain ⟨ad371, A371_1, c371_1, e371, hx371_0, hx371_1, hl371_1, hi371_1⟩ := at_T46 HR0.out ((rd_T48 l1 (ji33)).f0) p371 q371
                   have hw371_1 := hx371_1; have hw371_0 := hx371_0; cases e371
                   replace hx371_0 := (HB.out.cell (World.block_lt_of_cell? w _ hx371_0)).trans hx371_0
                   replace hx371_1 := (HB.out.cell (World.block_lt_of_cell? w _ hx371_1)).trans hx371_1
                   have HR371_1 := aM hi371_1
                   have HC371_1 := aM hl371_1
                   clear hi371_1 hl371_1; replace p371 := eq_true p371; replace q371 := eq_true q371
                   have p372 : 0 ≤ ((ji33) : Int) := of_decide_eq_true nQ
                   have q372 : (ji33) < (l1.length : Int) := of_decide_eq_true nQ
                   obtain ⟨ad372, e372, hx372_0, hx372_1, hx372_2⟩ := at_T48 HR1.out (ji33) p372 q372
                   have hw372_2 := hx372_2; have hw372_1 := hx372_1; have hw372_0 := hx372_0
                   obtain rfl : ad364 = ad372 := (by injection e372)
                   replace hx372_0 := (HB.out.cell (World.block_lt_of_cell? w _ hx372_0)).trans hx372_0
                   replace hx372_1 := (HB.out.cell (World.block_lt_of_cell? w _ hx372_1)).trans hx372_1
                   replace hx372_2 := (HB.out.cell (World.block_lt_of_cell? w _ hx372_2)).trans hx372_2
                   replace p372 := eq_true p372; replace q372 := eq_true q372
                   have p373 : 0 ≤ (((rd_T48 l1 (ji33)).f2) : Int) := of_decide_eq_true nQ
                   have q373 : ((rd_T48 l1 (ji33)).f2) < (((rd_T46 l0 ((rd_T48 l1 (ji33)).f0)).f1).length : Int) := of_decide_eq_true nQ
                   obtain ⟨ad373, e373, hx373_0, hx373_1, hx373_2⟩ := at_T43 HR371_1.out ((rd_T48 l1 (ji33)).f2) p373 q373
                   have hw373_2 := hx373_2; have hw373_1 := hx373_1; have hw373_0 := hx373_0; cases e373
                   replace hx373_0 := (HB.out.cell (World.block_lt_of_cell? w _ hx373_0)).trans hx373_0
                   replace hx373_1 := (HB.out.cell (World.block_lt_of_cell? w _ hx373_1)).trans hx373_1
                   replace hx373_2 := (HB.out.cell (World.block_lt_of_cell? w _ hx373_2)).trans hx373_2
                   replace p373 := eq_true p373; replace q373 := eq_true q373
                   refine start_ (n := 20) (S := fun w' => w'.cell? (ad364.add (((ji33)).toNat * 3)) = some (.int .i64 ((rd_T48 l1 (ji33)).f0)) ∧ w'.cell? ⟨(ad364.add (((ji33)).toNat * 3)).block, (ad364.add (((ji33)).toNat * 3)).off + 1, none⟩ = some (.int .i64 ((rd_T48 l1 (ji33)).f1)) ∧ w'.cell? ⟨(ad364.add (((ji33)).toNat * 3)).block, (ad364.add (((ji33)).toNat * 3)).off + 2, none⟩ = some (.int .i64 ((rd_T48 l1 (ji33)).f2)) ∧ w'.cell? (ad371.add ((((rd_T48 l1 (ji33)).f0)).toNat * 2)) = some (.string ((rd_T46 l0 ((rd_T48 l1 (ji33)).f0)).f0)) ∧ w'.cell? ⟨(ad371.add ((((rd_T48 l1 (ji33)).f0)).toNat * 2)).block, (ad371.add ((((rd_T48 l1 (ji33)).f0)).toNat * 2)).off + 1, none⟩ = some (.slice (some ad373) ((rd_T46 l0 ((rd_T48 l1 (ji33)).f0)).f1).length c371_1) ∧ w'.cell? (ad364.add (((ji33)).toNat * 3)) = some (.int .i64 ((rd_T48 l1 (ji33)).f0)) ∧ w'.cell? ⟨(ad364.add (((ji33)).toNat * 3)).block, (ad364.add (((ji33)).toNat * 3)).off + 1, none⟩ = some (.int .i64 ((rd_T48 l1 (ji33)).f1)) ∧ w'.cell? ⟨(ad364.add (((ji33)).toNat * 3)).block, (ad364.add (((ji33)).toNat * 3)).off + 2, none⟩ = some (.int .i64 ((rd_T48 l1 (ji33)).f2)) ∧ w'.cell? (ad373.add ((((rd_T48 l1 (ji33)).f2)).toNat * 3)) = some (.int .i64 ((rd_T43 ((rd_T46 l0 ((rd_T48 l1 (ji33)).f0)).f1) ((rd_T48 l1 (ji33)).f2)).f0)) ∧ w'.cell? ⟨(ad373.add ((((rd_T48 l1 (ji33)).f2)).toNat * 3)).block, (ad373.add ((((rd_T48 l1 (ji33)).f2)).toNat * 3)).off + 1, none⟩ = some (.int .i64 ((rd_T43 ((rd_T46 l0 ((rd_T48 l1 (ji33)).f0)).f1) ((rd_T48 l1 (ji33)).f2)).f1)) ∧ w'.cell? ⟨(ad373.add ((((rd_T48 l1 (ji33)).f2)).toNat * 3)).block, (ad373.add ((((rd_T48 l1 (ji33)).f2)).toNat * 3)).off + 2, none⟩ = some (.int .i64 ((rd_T43 ((rd_T46 l0 ((rd_T48 l1 (ji33)).f0)).f1) ((rd_T48 l1 (ji33)).f2)).f2))) (ds := []) #[F,F,F,F,F,F,F,F,F,F,F,F,F,F,F,F,F,F,F,F] (by kernel_rfl) rfl rfl ⟨(nC HB.out hw370_0 :), (nC HB.out hw370_1 :), (nC HB.out hw370_2 :), (nC HB.out hw371_0 :), (nC HB.out hw371_1 :), (nC HB.out hw372_0 :), (nC HB.out hw372_1 :), (nC HB.out hw372_2 :), (nC HB.out hw373_0 :), (nC HB.out hw373_1 :), (nC HB.out hw373_2 :)⟩ (fun hHeld => ?_); refine with_tabW spec_LegsOk.tab10 spec_LegsOk.bits10 (fun HT_ HW_ => ?_)
                   generalize wc.drew = w62 at BK365 HB HR371_1 hx370_0 hx370_1 hx370_2 hx371_0 hx371_1 hx372_0 hx372_1 hx372_2 hx373_0 hx373_1 hx373_2 hHeld ⊢
                   refine qU 0 (some 66) rfl rfl HT_.out ?_
                   refine qU 1 (some 67) rfl rfl HT_.out ?_
                   refine qU 2 (some 68) rfl rfl HT_.out ?_
                   refine qU 3 (some 69) rfl rfl HT_.out ?_
                   refine qU 4 (some 70) rfl rfl HT_.out ?_
                   refine qU 5 (some 71) rfl rfl HT_.out ?_
                   refine qU 10 (some 76) rfl rfl HT_.out ?_
                   refine qU 11 (some 77) rfl rfl HT_.out ?_
                   refine qU 12 (some 78) rfl rfl HT_.out ?_
                   refine qU 13 (some 79) rfl rfl HT_.out ?_
                   refine qU 14 (some 80) rfl rfl HT_.out ?_
                   refine qT11 6 (some 72) rfl rfl HT_.out HW_.out hHeld ?_
                   refine qU 7 (some 73) rfl rfl HT_.out ?_
                   refine qU 8 (some 74) rfl rfl HT_.out ?_
                   refine qT11 9 (some 75) rfl rfl HT_.out HW_.out hHeld ?_
                   refine qT11 15 (some 81) rfl rfl HT_.out HW_.out hHeld ?_
                   refine qU 16 (some 82) rfl rfl HT_.out ?_
                   refine qT11 17 (some 83) rfl rfl HT_.out HW_.out hHeld ?_
                   refine one_ (i := 18) (N := some 9) #[T,T,T,T,T,T,T,T,T,T,T,T,T,T,T,T,T,T,T,F] rfl rfl (one_of HT_.out (by kernel_rfl)) (by decide) (fun K hK => ?_)
                   refine box_step ?hg (N := 9) ?hd (cs := #[.int .i64 0, .int .i64 0, .int .i64 0]) (t := 43) ?hr ?_; (case hd => rfl); (case hg => rfl); (case hr => first | (go_simp; done) | (go_simp; rfl))
                   intro gb374 hg w63 hbox hb
                   have n_ := aA (nBB BK365.out hb) <| aA (below_step (nH1 HB.out GE365.out) hb) <| aA (hbox) <| aA (bS hg (nH1 HB.out GE365.out)) <| aA (bS hg (nH1 HB.out GE365.out)) <| aA (nBL BK365.out hg) <| aM (by rw [hg]; exact Nat.ne_of_gt (blk_lt (g := gb365) (o := .cells #[.int .i64 ((rd_T48 l1 x7_2).f0), .int .i64 ((rd_T48 l1 x7_2).f1), .int .i64 ((rd_T48 l1 x7_2).f2)] 48 (0, 0)) (nB BK365.out)) : gb374 ≠ gb365); clear BK365 HB; obtain ⟨BK365, HB, BK374, GW374, GE374, NB365_374, NB374_365⟩ := n_; clear hb hbox hg
                   refine hK.out _ _ ⟨(nC HB.out hw370_0 :), (nC HB.out hw370_1 :), (nC HB.out hw370_2 :), (nC HB.out hw371_0 :), (nC HB.out hw371_1 :), (nC HB.out hw372_0 :), (nC HB.out hw372_1 :), (nC HB.out hw372_2 :), (nC HB.out hw373_0 :), (nC HB.out hw373_1 :), (nC HB.out hw373_2 :)⟩ (fun hHeld => ?_)
                   clear hK K
                   refine norm_ (a' := ?_) ?_ ?_
                   rotate_left
                   · show Act.put _ (some 9) _ = _
                     simp only [Act.put, List.setIfInBounds_toArray, List.set_cons_zero, List.set_cons_succ, i64_w, i32_w]
                     rfl
                   refine one_ (i := 19) (N := none) #[T,T,T,T,T,T,T,T,T,T,T,T,T,T,T,T,T,T,T,T] rfl rfl (one_of HT_.out (by kernel_rfl)) (by decide) (fun K hK => ?_)
                   have hs64 : w63.cell? ⟨gb374, 0, none⟩ = some (.int .i64 0) := (blk_cell BK374.out 0).trans rfl
                   have hfs64 := blk_frozen BK374.out 0
                   have hns64_0 := NB365_374.out; have hms64_0 := NB374_365.out
                   have hs65 : w63.cell? ⟨gb374, 1, none⟩ = some (.int .i64 0) := (blk_cell BK374.out 1).trans rfl
                   have hfs65 := blk_frozen BK374.out 1
                   have hns65_0 := NB365_374.out; have hms65_0 := NB374_365.out
                   have hs66 : w63.cell? ⟨gb374, 2, none⟩ = some (.int .i64 0) := (blk_cell BK374.out 2).trans rfl
                   have hfs66 := blk_frozen BK374.out 2
                   have hns66_0 := NB365_374.out; have hms66_0 := NB374_365.out
                   refine skip_ (w1 := ?_) (by rfl) rfl ?_ ?_
                   rotate_left
                   · go_simp; rfl
                   refine hK.out _ _ ⟨((nF gb374 hw370_0 GW374.out).trans (((nF gb374 hw370_0 GW374.out).trans (((nF gb374 hw370_0 GW374.out).trans (hHeld.1)))))), ((nF gb374 hw370_1 GW374.out).trans (((nF gb374 hw370_1 GW374.out).trans (((nF gb374 hw370_1 GW374.out).trans (hHeld.2.1)))))), ((nF gb374 hw370_2 GW374.out).trans (((nF gb374 hw370_2 GW374.out).trans (((nF gb374 hw370_2 GW374.out).trans (hHeld.2.2.1)))))), ((nF gb374 hw371_0 GW374.out).trans (((nF gb374 hw371_0 GW374.out).trans (((nF gb374 hw371_0 GW374.out).trans (hHeld.2.2.2.1)))))), ((nF gb374 hw371_1 GW374.out).trans (((nF gb374 hw371_1 GW374.out).trans (((nF gb374 hw371_1 GW374.out).trans (hHeld.2.2.2.2.1)))))), ((nF gb374 hw372_0 GW374.out).trans (((nF gb374 hw372_0 GW374.out).trans (((nF gb374 hw372_0 GW374.out).trans (hHeld.2.2.2.2.2.1)))))), ((nF gb374 hw372_1 GW374.out).trans (((nF gb374 hw372_1 GW374.out).trans (((nF gb374 hw372_1 GW374.out).trans (hHeld.2.2.2.2.2.2.1)))))), ((nF gb374 hw372_2 GW374.out).trans (((nF gb374 hw372_2 GW374.out).trans (((nF gb374 hw372_2 GW374.out).trans (hHeld.2.2.2.2.2.2.2.1)))))), ((nF gb374 hw373_0 GW374.out).trans (((nF gb374 hw373_0 GW374.out).trans (((nF gb374 hw373_0 GW374.out).trans (hHeld.2.2.2.2.2.2.2.2.1)))))), ((nF gb374 hw373_1 GW374.out).trans (((nF gb374 hw373_1 GW374.out).trans (((nF gb374 hw373_1 GW374.out).trans (hHeld.2.2.2.2.2.2.2.2.2.1)))))), ((nF gb374 hw373_2 GW374.out).trans (((nF gb374 hw373_2 GW374.out).trans (((nF gb374 hw373_2 GW374.out).trans (hHeld.2.2.2.2.2.2.2.2.2.2))))))⟩ (fun hHeld => ?_)
                   clear hK K
                   refine done_ (done_of HT_.out (by kernel_rfl)) ?_
                   try go_wp2
                   have n0_ : Aside0 ((((w63.setCell ⟨gb374, 0, none⟩ (.int .i64 ((rd_T43 ((rd_T46 l0 ((rd_T48 l1 (ji33)).f0)).f1) ((rd_T48 l1 (ji33)).f2)).f0))).setCell ⟨gb374, 1, none⟩ (.int .i64 ((rd_T43 ((rd_T46 l0 ((rd_T48 l1 (ji33)).f0)).f1) ((rd_T48 l1 (ji33)).f2)).f1))).setCell ⟨gb374, 2, none⟩ (.int .i64 ((rd_T43 ((rd_T46 l0 ((rd_T48 l1 (ji33)).f0)).f1) ((rd_T48 l1 (ji33)).f2)).f2))).heap[gb365]? = some (.cells #[.int .i64 ((rd_T48 l1 x7_2).f0), .int .i64 ((rd_T48 l1 x7_2).f1), .int .i64 ((rd_T48 l1 x7_2).f2)] 48 (0, 0))) := ⟨by refine nE ?_; refine blk_far ?_ NB365_374.out _; refine nE ?_; refine blk_far ?_ NB365_374.out _; refine nE ?_; refine blk_far ?_ NB365_374.out _; exact nB BK365.out⟩
                   have n1_ : Aside0 ((((w63.setCell ⟨gb374, 0, none⟩ (.int .i64 ((rd_T43 ((rd_T46 l0 ((rd_T48 l1 (ji33)).f0)).f1) ((rd_T48 l1 (ji33)).f2)).f0))).setCell ⟨gb374, 1, none⟩ (.int .i64 ((rd_T43 ((rd_T46 l0 ((rd_T48 l1 (ji33)).f0)).f1) ((rd_T48 l1 (ji33)).f2)).f1))).setCell ⟨gb374, 2, none⟩ (.int .i64 ((rd_T43 ((rd_T46 l0 ((rd_T48 l1 (ji33)).f0)).f1) ((rd_T48 l1 (ji33)).f2)).f2))).heap[gb374]? = some (.cells #[.int .i64 ((rd_T43 ((rd_T46 l0 ((rd_T48 l1 (ji33)).f0)).f1) ((rd_T48 l1 (ji33)).f2)).f0), .int .i64 ((rd_T43 ((rd_T46 l0 ((rd_T48 l1 (ji33)).f0)).f1) ((rd_T48 l1 (ji33)).f2)).f1), .int .i64 ((rd_T43 ((rd_T46 l0 ((rd_T48 l1 (ji33)).f0)).f1) ((rd_T48 l1 (ji33)).f2)).f2)] 43 (0, 0))) := ⟨by refine nE ?_; refine blk_put (cs := #[.int .i64 ((rd_T43 ((rd_T46 l0 ((rd_T48 l1 (ji33)).f0)).f1) ((rd_T48 l1 (ji33)).f2)).f0), .int .i64 ((rd_T43 ((rd_T46 l0 ((rd_T48 l1 (ji33)).f0)).f1) ((rd_T48 l1 (ji33)).f2)).f1), .int .i64 0]) ?_ 2 _ rfl; refine nE ?_; refine blk_put (cs := #[.int .i64 ((rd_T43 ((rd_T46 l0 ((rd_T48 l1 (ji33)).f0)).f1) ((rd_T48 l1 (ji33)).f2)).f0), .int .i64 0, .int .i64 0]) ?_ 1 _ rfl; refine nE ?_; refine blk_put (cs := #[.int .i64 0, .int .i64 0, .int .i64 0]) ?_ 0 _ rfl; exact nB BK374.out⟩
                   have n2_ : Aside0 (Below w.heap.size w (((w63.setCell ⟨gb374, 0, none⟩ (.int .i64 ((rd_T43 ((rd_T46 l0 ((rd_T48 l1 (ji33)).f0)).f1) ((rd_T48 l1 (ji33)).f2)).f0))).setCell ⟨gb374, 1, none⟩ (.int .i64 ((rd_T43 ((rd_T46 l0 ((rd_T48 l1 (ji33)).f0)).f1) ((rd_T48 l1 (ji33)).f2)).f1))).setCell ⟨gb374, 2, none⟩ (.int .i64 ((rd_T43 ((rd_T46 l0 ((rd_T48 l1 (ji33)).f0)).f1) ((rd_T48 l1 (ji33)).f2)).f2)))) := ⟨nH2 HB.out GE365.out GE374.out⟩
                   (try clear BK365); (try clear BK374); (try clear HB)
                   generalize (((w63.setCell ⟨gb374, 0, none⟩ (.int .i64 ((rd_T43 ((rd_T46 l0 ((rd_T48 l1 (ji33)).f0)).f1) ((rd_T48 l1 (ji33)).f2)).f0))).setCell ⟨gb374, 1, none⟩ (.int .i64 ((rd_T43 ((rd_T46 l0 ((rd_T48 l1 (ji33)).f0)).f1) ((rd_T48 l1 (ji33)).f2)).f1))).setCell ⟨gb374, 2, none⟩ (.int .i64 ((rd_T43 ((rd_T46 l0 ((rd_T48 l1 (ji33)).f0)).f1) ((rd_T48 l1 (ji33)).f2)).f2))) = w67 at n0_ n1_ n2_ ⊢
                   have BK365 := n0_; have BK374 := n1_; have HB := n2_; clear n0_ n1_ n2_
                   have n_ := aA (blk_drew BK365.out) <| aA (blk_drew BK374.out) <| aM (below_drew1 HB.out); clear BK365 BK374 HB; obtain ⟨BK365, BK374, HB⟩ := n_
                   have p375 : 0 ≤ (((rd_T48 l1 x7_2).f0) : Int) := of_decide_eq_true nQ
                   have q375 : ((rd_T48 l1 x7_2).f0) < (l0.length : Int) := of_decide_eq_true nQ
                   obtain ⟨ad375, A375_1, c375_1, e375, hx375_0, hx375_1, hl375_1, hi375_1⟩ := at_T46 HR0.out ((rd_T48 l1 x7_2).f0) p375 q375
                   have hw375_1 := hx375_1; have hw375_0 := hx375_0
                   obtain rfl : ad371 = ad375 := (by injection e375)
                   replace hx375_0 := (HB.out.cell (World.block_lt_of_cell? w _ hx375_0)).trans hx375_0
                   replace hx375_1 := (HB.out.cell (World.block_lt_of_cell? w _ hx375_1)).trans hx375_1
                   have HR375_1 := aM hi375_1
                   have HC375_1 := aM hl375_1
                   clear hi375_1 hl375_1; replace p375 := eq_true p375; replace q375 := eq_true q375
                   have p376 : 0 ≤ (((rd_T48 l1 x7_2).f1) : Int) := of_decide_eq_true nQ
                   have q376 : ((rd_T48 l1 x7_2).f1) < (((rd_T46 l0 ((rd_T48 l1 x7_2).f0)).f1).length : Int) := of_decide_eq_true nQ
                   obtain ⟨ad376, e376, hx376_0, hx376_1, hx376_2⟩ := at_T43 HR375_1.out ((rd_T48 l1 x7_2).f1) p376 q376
                   have hw376_2 := hx376_2; have hw376_1 := hx376_1; have hw376_0 := hx376_0; cases e376
                   replace hx376_0 := (HB.out.cell (World.block_lt_of_cell? w _ hx376_0)).trans hx376_0
                   replace hx376_1 := (HB.out.cell (World.block_lt_of_cell? w _ hx376_1)).trans hx376_1
                   replace hx376_2 := (HB.out.cell (World.block_lt_of_cell? w _ hx376_2)).trans hx376_2
                   replace p376 := eq_true p376; replace q376 := eq_true q376
                   refine start_ (n := 12) (S := fun w' => w'.cell? ⟨gb365, 0, none⟩ = some (.int .i64 ((rd_T48 l1 x7_2).f0)) ∧ w'.cell? ⟨gb365, 1, none⟩ = some (.int .i64 ((rd_T48 l1 x7_2).f1)) ∧ w'.cell? ⟨gb365, 2, none⟩ = some (.int .i64 ((rd_T48 l1 x7_2).f2)) ∧ w'.cell? (ad371.add ((((rd_T48 l1 x7_2).f0)).toNat * 2)) = some (.string ((rd_T46 l0 ((rd_T48 l1 x7_2).f0)).f0)) ∧ w'.cell? ⟨(ad371.add ((((rd_T48 l1 x7_2).f0)).toNat * 2)).block, (ad371.add ((((rd_T48 l1 x7_2).f0)).toNat * 2)).off + 1, none⟩ = some (.slice (some ad376) ((rd_T46 l0 ((rd_T48 l1 x7_2).f0)).f1).length c375_1) ∧ w'.cell? (ad376.add ((((rd_T48 l1 x7_2).f1)).toNat * 3)) = some (.int .i64 ((rd_T43 ((rd_T46 l0 ((rd_T48 l1 x7_2).f0)).f1) ((rd_T48 l1 x7_2).f1)).f0)) ∧ w'.cell? ⟨(ad376.add ((((rd_T48 l1 x7_2).f1)).toNat * 3)).block, (ad376.add ((((rd_T48 l1 x7_2).f1)).toNat * 3)).off + 1, none⟩ = some (.int .i64 ((rd_T43 ((rd_T46 l0 ((rd_T48 l1 x7_2).f0)).f1) ((rd_T48 l1 x7_2).f1)).f1)) ∧ w'.cell? ⟨(ad376.add ((((rd_T48 l1 x7_2).f1)).toNat * 3)).block, (ad376.add ((((rd_T48 l1 x7_2).f1)).toNat * 3)).off + 2, none⟩ = some (.int .i64 ((rd_T43 ((rd_T46 l0 ((rd_T48 l1 x7_2).f0)).f1) ((rd_T48 l1 x7_2).f1)).f2))) (ds := []) #[F,F,F,F,F,F,F,F,F,F,F,F] (by kernel_rfl) rfl rfl ⟨(blk_cell BK365.out 0).trans rfl, (blk_cell BK365.out 1).trans rfl, (blk_cell BK365.out 2).trans rfl, (nC HB.out hw375_0 :), (nC HB.out hw375_1 :), (nC HB.out hw376_0 :), (nC HB.out hw376_1 :), (nC HB.out hw376_2 :)⟩ (fun hHeld => ?_); refine with_tabW spec_LegsOk.tab11 spec_LegsOk.bits11 (fun HT_ HW_ => ?_)
                   generalize w67.drew = w68 at BK365 BK374 HB HR375_1 hx375_0 hx375_1 hx376_0 hx376_1 hx376_2 hHeld ⊢
                   refine qU 0 (some 84) rfl rfl HT_.out ?_
                   refine qU 1 (some 85) rfl rfl HT_.out ?_
                   refine qU 6 (some 90) rfl rfl HT_.out ?_
                   refine qT8 2 (some 86) rfl rfl HT_.out HW_.out hHeld ?_
                   refine qU 3 (some 87) rfl rfl HT_.out ?_
                   refine qU 4 (some 88) rfl rfl HT_.out ?_
                   refine qT8 5 (some 89) rfl rfl HT_.out HW_.out hHeld ?_
                   refine qT8 7 (some 91) rfl rfl HT_.out HW_.out hHeld ?_
                   refine qU 8 (some 92) rfl rfl HT_.out ?_
                   refine qT8 9 (some 93) rfl rfl HT_.out HW_.out hHeld ?_
                   refine one_ (i := 10) (N := some 10) #[T,T,T,T,T,T,T,T,T,T,T,F] rfl rfl (one_of HT_.out (by kernel_rfl)) (by decide) (fun K hK => ?_)
                   refine box_step ?hg (N := 10) ?hd (cs := #[.int .i64 0, .int .i64 0, .int .i64 0]) (t := 43) ?hr ?_; (case hd => rfl); (case hg => rfl); (case hr => first | (go_simp; done) | (go_simp; rfl))
                   intro gb377 hg w69 hbox hb
                   have n_ := aA (nBB BK365.out hb) <| aA (nBB BK374.out hb) <| aA (below_step (nH2 HB.out GE365.out GE374.out) hb) <| aA (hbox) <| aA (bS hg (nH2 HB.out GE365.out GE374.out)) <| aA (bS hg (nH2 HB.out GE365.out GE374.out)) <| aA (nBL BK365.out hg) <| aA (by rw [hg]; exact Nat.ne_of_gt (blk_lt (g := gb365) (o := .cells #[.int .i64 ((rd_T48 l1 x7_2).f0), .int .i64 ((rd_T48 l1 x7_2).f1), .int .i64 ((rd_T48 l1 x7_2).f2)] 48 (0, 0)) (nB BK365.out)) : gb377 ≠ gb365) <| aA (nBL BK374.out hg) <| aM (by rw [hg]; exact Nat.ne_of_gt (blk_lt (g := gb374) (o := .cells #[.int .i64 ((rd_T43 ((rd_T46 l0 ((rd_T48 l1 (ji33)).f0)).f1) ((rd_T48 l1 (ji33)).f2)).f0), .int .i64 ((rd_T43 ((rd_T46 l0 ((rd_T48 l1 (ji33)).f0)).f1) ((rd_T48 l1 (ji33)).f2)).f1), .int .i64 ((rd_T43 ((rd_T46 l0 ((rd_T48 l1 (ji33)).f0)).f1) ((rd_T48 l1 (ji33)).f2)).f2)] 43 (0, 0)) (nB BK374.out)) : gb377 ≠ gb374); clear BK365 BK374 HB; obtain ⟨BK365, BK374, HB, BK377, GW377, GE377, NB365_377, NB377_365, NB374_377, NB377_374⟩ := n_; clear hb hbox hg
                   refine hK.out _ _ ⟨(blk_cell BK365.out 0).trans rfl, (blk_cell BK365.out 1).trans rfl, (blk_cell BK365.out 2).trans rfl, (nC HB.out hw375_0 :), (nC HB.out hw375_1 :), (nC HB.out hw376_0 :), (nC HB.out hw376_1 :), (nC HB.out hw376_2 :)⟩ (fun hHeld => ?_)
                   clear hK K
                   refine norm_ (a' := ?_) ?_ ?_
                   rotate_left
                   · show Act.put _ (some 10) _ = _
                     simp only [Act.put, List.setIfInBounds_toArray, List.set_cons_zero, List.set_cons_succ, i64_w, i32_w]
                     rfl
                   refine one_ (i := 11) (N := none) #[T,T,T,T,T,T,T,T,T,T,T,T] rfl rfl (one_of HT_.out (by kernel_rfl)) (by decide) (fun K hK => ?_)
                   have hs70 : w69.cell? ⟨gb377, 0, none⟩ = some (.int .i64 0) := (blk_cell BK377.out 0).trans rfl
                   have hfs70 := blk_frozen BK377.out 0
                   have hns70_0 := NB365_377.out; have hns70_1 := NB374_377.out; have hms70_0 := NB377_365.out; have hms70_1 := NB377_374.out
                   have hs71 : w69.cell? ⟨gb377, 1, none⟩ = some (.int .i64 0) := (blk_cell BK377.out 1).trans rfl
                   have hfs71 := blk_frozen BK377.out 1
                   have hns71_0 := NB365_377.out; have hns71_1 := NB374_377.out; have hms71_0 := NB377_365.out; have hms71_1 := NB377_374.out
                   have hs72 : w69.cell? ⟨gb377, 2, none⟩ = some (.int .i64 0) := (blk_cell BK377.out 2).trans rfl
                   have hfs72 := blk_frozen BK377.out 2
                   have hns72_0 := NB365_377.out; have hns72_1 := NB374_377.out; have hms72_0 := NB377_365.out; have hms72_1 := NB377_374.out
                   refine skip_ (w1 := ?_) (by rfl) rfl ?_ ?_
                   rotate_left
                   · go_simp; rfl
                   refine hK.out _ _ ⟨((cell_far (p := ⟨gb377, _, none⟩) NB365_377.out _).trans (((cell_far (p := ⟨gb377, _, none⟩) NB365_377.out _).trans (((cell_far (p := ⟨gb377, _, none⟩) NB365_377.out _).trans (hHeld.1)))))), ((cell_far (p := ⟨gb377, _, none⟩) NB365_377.out _).trans (((cell_far (p := ⟨gb377, _, none⟩) NB365_377.out _).trans (((cell_far (p := ⟨gb377, _, none⟩) NB365_377.out _).trans (hHeld.2.1)))))), ((cell_far (p := ⟨gb377, _, none⟩) NB365_377.out _).trans (((cell_far (p := ⟨gb377, _, none⟩) NB365_377.out _).trans (((cell_far (p := ⟨gb377, _, none⟩) NB365_377.out _).trans (hHeld.2.2.1)))))), ((nF gb377 hw375_0 GW377.out).trans (((nF gb377 hw375_0 GW377.out).trans (((nF gb377 hw375_0 GW377.out).trans (hHeld.2.2.2.1)))))), ((nF gb377 hw375_1 GW377.out).trans (((nF gb377 hw375_1 GW377.out).trans (((nF gb377 hw375_1 GW377.out).trans (hHeld.2.2.2.2.1)))))), ((nF gb377 hw376_0 GW377.out).trans (((nF gb377 hw376_0 GW377.out).trans (((nF gb377 hw376_0 GW377.out).trans (hHeld.2.2.2.2.2.1)))))), ((nF gb377 hw376_1 GW377.out).trans (((nF gb377 hw376_1 GW377.out).trans (((nF gb377 hw376_1 GW377.out).trans (hHeld.2.2.2.2.2.2.1)))))), ((nF gb377 hw376_2 GW377.out).trans (((nF gb377 hw376_2 GW377.out).trans (((nF gb377 hw376_2 GW377.out).trans (hHeld.2.2.2.2.2.2.2))))))⟩ (fun hHeld => ?_)
                   clear hK K
                   refine done_ (done_of HT_.out (by kernel_rfl)) ?_
                   have hnb73 := NB374_365.out; have hnc73 := NB365_374.out; have hnb74 := NB374_377.out; have hnc74 := NB377_374.out
                   obtain ⟨hcz75_0, hcz75_1, hcz75_2, hfz75_0, hfz75_1, hfz75_2⟩ := nK3 BK374.out
                   have hnb76 := NB377_365.out; have hnc76 := NB365_377.out
                   obtain ⟨hcz77_0, hcz77_1, hcz77_2, hfz77_0, hfz77_1, hfz77_2⟩ := nK3 BK377.out
                   try go_wp2
                   go_roundg kj14
                   case measure => have := HJ3.out; have := HK2.out; have := HJ14.out; omega
                   case rel => exact ⟨(wrap64 (x7_2 + 1)), nS, H', ⟨by have := HJ3.out; have := HK2.out; have := HJ14.out; omega⟩, ⟨nH3 HB.out GE365.out GE374.out GE377.out⟩⟩
               · rw [if_neg c44] at H
                 have c44b0 : (((rd_T43 ((rd_T46 l0 ((rd_T48 l1 (ji33)).f0)).f1) ((rd_T48 l1 (ji33)).f2)).f0) == ((rd_T43 ((rd_T46 l0 ((rd_T48 l1 x7_2).f0)).f1) ((rd_T48 l1 x7_2).f1)).f0)) = false := beq_eq_false_iff_ne.mpr c44
                 have c44b1 : (((rd_T43 ((rd_T46 l0 ((rd_T48 l1 (ji33)).f0)).f1) ((rd_T48 l1 (ji33)).f2)).f0) != ((rd_T43 ((rd_T46 l0 ((rd_T48 l1 x7_2).f0)).f1) ((rd_T48 l1 x7_2).f1)).f0)) = true := bne_iff_ne.mpr c44
                 obtain rfl := Option.some.inj H
                 try go_wp2
                 have n_ := aA (blk_drew BK365.out) <| aM (below_drew1 HB.out); clear BK365 HB; obtain ⟨BK365, HB⟩ := n_
                 have p370 : 0 ≤ ((ji33) : Int) := of_decide_eq_true nQ
                 have q370 : (ji33) < (l1.length : Int) := of_decide_eq_true nQ
                 obtain ⟨ad370, e370, hx370_0, hx370_1, hx370_2⟩ := at_T48 HR1.out (ji33) p370 q370
                 have hw370_2 := hx370_2; have hw370_1 := hx370_1; have hw370_0 := hx370_0
                 obtain rfl : ad364 = ad370 := (by injection e370)
                 replace hx370_0 := (HB.out.cell (World.block_lt_of_cell? w _ hx370_0)).trans hx370_0
                 replace hx370_1 := (HB.out.cell (World.block_lt_of_cell? w _ hx370_1)).trans hx370_1
                 replace hx370_2 := (HB.out.cell (World.block_lt_of_cell? w _ hx370_2)).trans hx370_2
                 replace p370 := eq_true p370; replace q370 := eq_true q370
                 have p371 : 0 ≤ (((rd_T48 l1 (ji33)).f0) : Int) := of_decide_eq_true nQ
                 have q371 : ((rd_T48 l1 (ji33)).f0) < (l0.length : Int) := of_decide_eq_true nQ
                 obtain ⟨ad371, A371_1, c371_1, e371, hx371_0, hx371_1, hl371_1, hi371_1⟩ := at_T46 HR0.out ((rd_T48 l1 (ji33)).f0) p371 q371
                 have hw371_1 := hx371_1; have hw371_0 := hx371_0; cases e371
                 replace hx371_0 := (HB.out.cell (World.block_lt_of_cell? w _ hx371_0)).trans hx371_0
                 replace hx371_1 := (HB.out.cell (World.block_lt_of_cell? w _ hx371_1)).trans hx371_1
                 have HR371_1 := aM hi371_1
                 have HC371_1 := aM hl371_1
                 clear hi371_1 hl371_1; replace p371 := eq_true p371; replace q371 := eq_true q371
                 have p372 : 0 ≤ ((ji33) : Int) := of_decide_eq_true nQ
                 have q372 : (ji33) < (l1.length : Int) := of_decide_eq_true nQ
                 obtain ⟨ad372, e372, hx372_0, hx372_1, hx372_2⟩ := at_T48 HR1.out (ji33) p372 q372
                 have hw372_2 := hx372_2; have hw372_1 := hx372_1; have hw372_0 := hx372_0
                 obtain rfl : ad364 = ad372 := (by injection e372)
                 replace hx372_0 := (HB.out.cell (World.block_lt_of_cell? w _ hx372_0)).trans hx372_0
                 replace hx372_1 := (HB.out.cell (World.block_lt_of_cell? w _ hx372_1)).trans hx372_1
                 replace hx372_2 := (HB.out.cell (World.block_lt_of_cell? w _ hx372_2)).trans hx372_2
                 replace p372 := eq_true p372; replace q372 := eq_true q372
                 have p373 : 0 ≤ (((rd_T48 l1 (ji33)).f2) : Int) := of_decide_eq_true nQ
                 have q373 : ((rd_T48 l1 (ji33)).f2) < (((rd_T46 l0 ((rd_T48 l1 (ji33)).f0)).f1).length : Int) := of_decide_eq_true nQ
                 obtain ⟨ad373, e373, hx373_0, hx373_1, hx373_2⟩ := at_T43 HR371_1.out ((rd_T48 l1 (ji33)).f2) p373 q373
                 have hw373_2 := hx373_2; have hw373_1 := hx373_1; have hw373_0 := hx373_0; cases e373
                 replace hx373_0 := (HB.out.cell (World.block_lt_of_cell? w _ hx373_0)).trans hx373_0
                 replace hx373_1 := (HB.out.cell (World.block_lt_of_cell? w _ hx373_1)).trans hx373_1
                 replace hx373_2 := (HB.out.cell (World.block_lt_of_cell? w _ hx373_2)).trans hx373_2
                 replace p373 := eq_true p373; replace q373 := eq_true q373
                 refine start_ (n := 20) (S := fun w' => w'.cell? (ad364.add (((ji33)).toNat * 3)) = some (.int .i64 ((rd_T48 l1 (ji33)).f0)) ∧ w'.cell? ⟨(ad364.add (((ji33)).toNat * 3)).block, (ad364.add (((ji33)).toNat * 3)).off + 1, none⟩ = some (.int .i64 ((rd_T48 l1 (ji33)).f1)) ∧ w'.cell? ⟨(ad364.add (((ji33)).toNat * 3)).block, (ad364.add (((ji33)).toNat * 3)).off + 2, none⟩ = some (.int .i64 ((rd_T48 l1 (ji33)).f2)) ∧ w'.cell? (ad371.add ((((rd_T48 l1 (ji33)).f0)).toNat * 2)) = some (.string ((rd_T46 l0 ((rd_T48 l1 (ji33)).f0)).f0)) ∧ w'.cell? ⟨(ad371.add ((((rd_T48 l1 (ji33)).f0)).toNat * 2)).block, (ad371.add ((((rd_T48 l1 (ji33)).f0)).toNat * 2)).off + 1, none⟩ = some (.slice (some ad373) ((rd_T46 l0 ((rd_T48 l1 (ji33)).f0)).f1).length c371_1) ∧ w'.cell? (ad364.add (((ji33)).toNat * 3)) = some (.int .i64 ((rd_T48 l1 (ji33)).f0)) ∧ w'.cell? ⟨(ad364.add (((ji33)).toNat * 3)).block, (ad364.add (((ji33)).toNat * 3)).off + 1, none⟩ = some (.int .i64 ((rd_T48 l1 (ji33)).f1)) ∧ w'.cell? ⟨(ad364.add (((ji33)).toNat * 3)).block, (ad364.add (((ji33)).toNat * 3)).off + 2, none⟩ = some (.int .i64 ((rd_T48 l1 (ji33)).f2)) ∧ w'.cell? (ad373.add ((((rd_T48 l1 (ji33)).f2)).toNat * 3)) = some (.int .i64 ((rd_T43 ((rd_T46 l0 ((rd_T48 l1 (ji33)).f0)).f1) ((rd_T48 l1 (ji33)).f2)).f0)) ∧ w'.cell? ⟨(ad373.add ((((rd_T48 l1 (ji33)).f2)).toNat * 3)).block, (ad373.add ((((rd_T48 l1 (ji33)).f2)).toNat * 3)).off + 1, none⟩ = some (.int .i64 ((rd_T43 ((rd_T46 l0 ((rd_T48 l1 (ji33)).f0)).f1) ((rd_T48 l1 (ji33)).f2)).f1)) ∧ w'.cell? ⟨(ad373.add ((((rd_T48 l1 (ji33)).f2)).toNat * 3)).block, (ad373.add ((((rd_T48 l1 (ji33)).f2)).toNat * 3)).off + 2, none⟩ = some (.int .i64 ((rd_T43 ((rd_T46 l0 ((rd_T48 l1 (ji33)).f0)).f1) ((rd_T48 l1 (ji33)).f2)).f2))) (ds := []) #[F,F,F,F,F,F,F,F,F,F,F,F,F,F,F,F,F,F,F,F] (by kernel_rfl) rfl rfl ⟨(nC HB.out hw370_0 :), (nC HB.out hw370_1 :), (nC HB.out hw370_2 :), (nC HB.out hw371_0 :), (nC HB.out hw371_1 :), (nC HB.out hw372_0 :), (nC HB.out hw372_1 :), (nC HB.out hw372_2 :), (nC HB.out hw373_0 :), (nC HB.out hw373_1 :), (nC HB.out hw373_2 :)⟩ (fun hHeld => ?_); refine with_tabW spec_LegsOk.tab10 spec_LegsOk.bits10 (fun HT_ HW_ => ?_)
                 generalize wc.drew = w78 at BK365 HB HR371_1 hx370_0 hx370_1 hx370_2 hx371_0 hx371_1 hx372_0 hx372_1 hx372_2 hx373_0 hx373_1 hx373_2 hHeld ⊢
                 refine qU 0 (some 66) rfl rfl HT_.out ?_
                 refine qU 1 (some 67) rfl rfl HT_.out ?_
                 refine qU 2 (some 68) rfl rfl HT_.out ?_
                 refine qU 3 (some 69) rfl rfl HT_.out ?_
                 refine qU 4 (some 70) rfl rfl HT_.out ?_
                 refine qU 5 (some 71) rfl rfl HT_.out ?_
                 refine qU 10 (some 76) rfl rfl HT_.out ?_
                 refine qU 11 (some 77) rfl rfl HT_.out ?_
                 refine qU 12 (some 78) rfl rfl HT_.out ?_
                 refine qU 13 (some 79) rfl rfl HT_.out ?_
                 refine qU 14 (some 80) rfl rfl HT_.out ?_
                 refine qT11 6 (some 72) rfl rfl HT_.out HW_.out hHeld ?_
                 refine qU 7 (some 73) rfl rfl HT_.out ?_
                 refine qU 8 (some 74) rfl rfl HT_.out ?_
                 refine qT11 9 (some 75) rfl rfl HT_.out HW_.out hHeld ?_
                 refine qT11 15 (some 81) rfl rfl HT_.out HW_.out hHeld ?_
                 refine qU 16 (some 82) rfl rfl HT_.out ?_
                 refine qT11 17 (some 83) rfl rfl HT_.out HW_.out hHeld ?_
                 refine one_ (i := 18) (N := some 9) #[T,T,T,T,T,T,T,T,T,T,T,T,T,T,T,T,T,T,T,F] rfl rfl (one_of HT_.out (by kernel_rfl)) (by decide) (fun K hK => ?_)
                 refine box_step ?hg (N := 9) ?hd (cs := #[.int .i64 0, .int .i64 0, .int .i64 0]) (t := 43) ?hr ?_; (case hd => rfl); (case hg => rfl); (case hr => first | (go_simp; done) | (go_simp; rfl))
                 intro gb374 hg w79 hbox hb
                 have n_ := aA (nBB BK365.out hb) <| aA (below_step (nH1 HB.out GE365.out) hb) <| aA (hbox) <| aA (bS hg (nH1 HB.out GE365.out)) <| aA (bS hg (nH1 HB.out GE365.out)) <| aA (nBL BK365.out hg) <| aM (by rw [hg]; exact Nat.ne_of_gt (blk_lt (g := gb365) (o := .cells #[.int .i64 ((rd_T48 l1 x7_2).f0), .int .i64 ((rd_T48 l1 x7_2).f1), .int .i64 ((rd_T48 l1 x7_2).f2)] 48 (0, 0)) (nB BK365.out)) : gb374 ≠ gb365); clear BK365 HB; obtain ⟨BK365, HB, BK374, GW374, GE374, NB365_374, NB374_365⟩ := n_; clear hb hbox hg
                 refine hK.out _ _ ⟨(nC HB.out hw370_0 :), (nC HB.out hw370_1 :), (nC HB.out hw370_2 :), (nC HB.out hw371_0 :), (nC HB.out hw371_1 :), (nC HB.out hw372_0 :), (nC HB.out hw372_1 :), (nC HB.out hw372_2 :), (nC HB.out hw373_0 :), (nC HB.out hw373_1 :), (nC HB.out hw373_2 :)⟩ (fun hHeld => ?_)
                 clear hK K
                 refine norm_ (a' := ?_) ?_ ?_
                 rotate_left
                 · show Act.put _ (some 9) _ = _
                   simp only [Act.put, List.setIfInBounds_toArray, List.set_cons_zero, List.set_cons_succ, i64_w, i32_w]
                   rfl
                 refine one_ (i := 19) (N := none) #[T,T,T,T,T,T,T,T,T,T,T,T,T,T,T,T,T,T,T,T] rfl rfl (one_of HT_.out (by kernel_rfl)) (by decide) (fun K hK => ?_)
                 have hs80 : w79.cell? ⟨gb374, 0, none⟩ = some (.int .i64 0) := (blk_cell BK374.out 0).trans rfl
                 have hfs80 := blk_frozen BK374.out 0
                 have hns80_0 := NB365_374.out; have hms80_0 := NB374_365.out
                 have hs81 : w79.cell? ⟨gb374, 1, none⟩ = some (.int .i64 0) := (blk_cell BK374.out 1).trans rfl
                 have hfs81 := blk_frozen BK374.out 1
                 have hns81_0 := NB365_374.out; have hms81_0 := NB374_365.out
                 have hs82 : w79.cell? ⟨gb374, 2, none⟩ = some (.int .i64 0) := (blk_cell BK374.out 2).trans rfl
                 have hfs82 := blk_frozen BK374.out 2
                 have hns82_0 := NB365_374.out; have hms82_0 := NB374_365.out
                 refine skip_ (w1 := ?_) (by rfl) rfl ?_ ?_
                 rotate_left
                 · go_simp; rfl
                 refine hK.out _ _ ⟨((nF gb374 hw370_0 GW374.out).trans (((nF gb374 hw370_0 GW374.out).trans (((nF gb374 hw370_0 GW374.out).trans (hHeld.1)))))), ((nF gb374 hw370_1 GW374.out).trans (((nF gb374 hw370_1 GW374.out).trans (((nF gb374 hw370_1 GW374.out).trans (hHeld.2.1)))))), ((nF gb374 hw370_2 GW374.out).trans (((nF gb374 hw370_2 GW374.out).trans (((nF gb374 hw370_2 GW374.out).trans (hHeld.2.2.1)))))), ((nF gb374 hw371_0 GW374.out).trans (((nF gb374 hw371_0 GW374.out).trans (((nF gb374 hw371_0 GW374.out).trans (hHeld.2.2.2.1)))))), ((nF gb374 hw371_1 GW374.out).trans (((nF gb374 hw371_1 GW374.out).trans (((nF gb374 hw371_1 GW374.out).trans (hHeld.2.2.2.2.1)))))), ((nF gb374 hw372_0 GW374.out).trans (((nF gb374 hw372_0 GW374.out).trans (((nF gb374 hw372_0 GW374.out).trans (hHeld.2.2.2.2.2.1)))))), ((nF gb374 hw372_1 GW374.out).trans (((nF gb374 hw372_1 GW374.out).trans (((nF gb374 hw372_1 GW374.out).trans (hHeld.2.2.2.2.2.2.1)))))), ((nF gb374 hw372_2 GW374.out).trans (((nF gb374 hw372_2 GW374.out).trans (((nF gb374 hw372_2 GW374.out).trans (hHeld.2.2.2.2.2.2.2.1)))))), ((nF gb374 hw373_0 GW374.out).trans (((nF gb374 hw373_0 GW374.out).trans (((nF gb374 hw373_0 GW374.out).trans (hHeld.2.2.2.2.2.2.2.2.1)))))), ((nF gb374 hw373_1 GW374.out).trans (((nF gb374 hw373_1 GW374.out).trans (((nF gb374 hw373_1 GW374.out).trans (hHeld.2.2.2.2.2.2.2.2.2.1)))))), ((nF gb374 hw373_2 GW374.out).trans (((nF gb374 hw373_2 GW374.out).trans (((nF gb374 hw373_2 GW374.out).trans (hHeld.2.2.2.2.2.2.2.2.2.2))))))⟩ (fun hHeld => ?_)
                 clear hK K
                 refine done_ (done_of HT_.out (by kernel_rfl)) ?_
                 try go_wp2
                 have n0_ : Aside0 ((((w79.setCell ⟨gb374, 0, none⟩ (.int .i64 ((rd_T43 ((rd_T46 l0 ((rd_T48 l1 (ji33)).f0)).f1) ((rd_T48 l1 (ji33)).f2)).f0))).setCell ⟨gb374, 1, none⟩ (.int .i64 ((rd_T43 ((rd_T46 l0 ((rd_T48 l1 (ji33)).f0)).f1) ((rd_T48 l1 (ji33)).f2)).f1))).setCell ⟨gb374, 2, none⟩ (.int .i64 ((rd_T43 ((rd_T46 l0 ((rd_T48 l1 (ji33)).f0)).f1) ((rd_T48 l1 (ji33)).f2)).f2))).heap[gb365]? = some (.cells #[.int .i64 ((rd_T48 l1 x7_2).f0), .int .i64 ((rd_T48 l1 x7_2).f1), .int .i64 ((rd_T48 l1 x7_2).f2)] 48 (0, 0))) := ⟨by refine nE ?_; refine blk_far ?_ NB365_374.out _; refine nE ?_; refine blk_far ?_ NB365_374.out _; refine nE ?_; refine blk_far ?_ NB365_374.out _; exact nB BK365.out⟩
                 have n1_ : Aside0 ((((w79.setCell ⟨gb374, 0, none⟩ (.int .i64 ((rd_T43 ((rd_T46 l0 ((rd_T48 l1 (ji33)).f0)).f1) ((rd_T48 l1 (ji33)).f2)).f0))).setCell ⟨gb374, 1, none⟩ (.int .i64 ((rd_T43 ((rd_T46 l0 ((rd_T48 l1 (ji33)).f0)).f1) ((rd_T48 l1 (ji33)).f2)).f1))).setCell ⟨gb374, 2, none⟩ (.int .i64 ((rd_T43 ((rd_T46 l0 ((rd_T48 l1 (ji33)).f0)).f1) ((rd_T48 l1 (ji33)).f2)).f2))).heap[gb374]? = some (.cells #[.int .i64 ((rd_T43 ((rd_T46 l0 ((rd_T48 l1 (ji33)).f0)).f1) ((rd_T48 l1 (ji33)).f2)).f0), .int .i64 ((rd_T43 ((rd_T46 l0 ((rd_T48 l1 (ji33)).f0)).f1) ((rd_T48 l1 (ji33)).f2)).f1), .int .i64 ((rd_T43 ((rd_T46 l0 ((rd_T48 l1 (ji33)).f0)).f1) ((rd_T48 l1 (ji33)).f2)).f2)] 43 (0, 0))) := ⟨by refine nE ?_; refine blk_put (cs := #[.int .i64 ((rd_T43 ((rd_T46 l0 ((rd_T48 l1 (ji33)).f0)).f1) ((rd_T48 l1 (ji33)).f2)).f0), .int .i64 ((rd_T43 ((rd_T46 l0 ((rd_T48 l1 (ji33)).f0)).f1) ((rd_T48 l1 (ji33)).f2)).f1), .int .i64 0]) ?_ 2 _ rfl; refine nE ?_; refine blk_put (cs := #[.int .i64 ((rd_T43 ((rd_T46 l0 ((rd_T48 l1 (ji33)).f0)).f1) ((rd_T48 l1 (ji33)).f2)).f0), .int .i64 0, .int .i64 0]) ?_ 1 _ rfl; refine nE ?_; refine blk_put (cs := #[.int .i64 0, .int .i64 0, .int .i64 0]) ?_ 0 _ rfl; exact nB BK374.out⟩
                 have n2_ : Aside0 (Below w.heap.size w (((w79.setCell ⟨gb374, 0, none⟩ (.int .i64 ((rd_T43 ((rd_T46 l0 ((rd_T48 l1 (ji33)).f0)).f1) ((rd_T48 l1 (ji33)).f2)).f0))).setCell ⟨gb374, 1, none⟩ (.int .i64 ((rd_T43 ((rd_T46 l0 ((rd_T48 l1 (ji33)).f0)).f1) ((rd_T48 l1 (ji33)).f2)).f1))).setCell ⟨gb374, 2, none⟩ (.int .i64 ((rd_T43 ((rd_T46 l0 ((rd_T48 l1 (ji33)).f0)).f1) ((rd_T48 l1 (ji33)).f2)).f2)))) := ⟨nH2 HB.out GE365.out GE374.out⟩
                 (try clear BK365); (try clear BK374); (try clear HB)
                 generalize (((w79.setCell ⟨gb374, 0, none⟩ (.int .i64 ((rd_T43 ((rd_T46 l0 ((rd_T48 l1 (ji33)).f0)).f1) ((rd_T48 l1 (ji33)).f2)).f0))).setCell ⟨gb374, 1, none⟩ (.int .i64 ((rd_T43 ((rd_T46 l0 ((rd_T48 l1 (ji33)).f0)).f1) ((rd_T48 l1 (ji33)).f2)).f1))).setCell ⟨gb374, 2, none⟩ (.int .i64 ((rd_T43 ((rd_T46 l0 ((rd_T48 l1 (ji33)).f0)).f1) ((rd_T48 l1 (ji33)).f2)).f2))) = w83 at n0_ n1_ n2_ ⊢
                 have BK365 := n0_; have BK374 := n1_; have HB := n2_; clear n0_ n1_ n2_
                 have n_ := aA (blk_drew BK365.out) <| aA (blk_drew BK374.out) <| aM (below_drew1 HB.out); clear BK365 BK374 HB; obtain ⟨BK365, BK374, HB⟩ := n_
                 have p375 : 0 ≤ (((rd_T48 l1 x7_2).f0) : Int) := of_decide_eq_true nQ
                 have q375 : ((rd_T48 l1 x7_2).f0) < (l0.length : Int) := of_decide_eq_true nQ
                 obtain ⟨ad375, A375_1, c375_1, e375, hx375_0, hx375_1, hl375_1, hi375_1⟩ := at_T46 HR0.out ((rd_T48 l1 x7_2).f0) p375 q375
                 have hw375_1 := hx375_1; have hw375_0 := hx375_0
                 obtain rfl : ad371 = ad375 := (by injection e375)
                 replace hx375_0 := (HB.out.cell (World.block_lt_of_cell? w _ hx375_0)).trans hx375_0
                 replace hx375_1 := (HB.out.cell (World.block_lt_of_cell? w _ hx375_1)).trans hx375_1
                 have HR375_1 := aM hi375_1
                 have HC375_1 := aM hl375_1
                 clear hi375_1 hl375_1; replace p375 := eq_true p375; replace q375 := eq_true q375
                 have p376 : 0 ≤ (((rd_T48 l1 x7_2).f1) : Int) := of_decide_eq_true nQ
                 have q376 : ((rd_T48 l1 x7_2).f1) < (((rd_T46 l0 ((rd_T48 l1 x7_2).f0)).f1).length : Int) := of_decide_eq_true nQ
                 obtain ⟨ad376, e376, hx376_0, hx376_1, hx376_2⟩ := at_T43 HR375_1.out ((rd_T48 l1 x7_2).f1) p376 q376
                 have hw376_2 := hx376_2; have hw376_1 := hx376_1; have hw376_0 := hx376_0; cases e376
                 replace hx376_0 := (HB.out.cell (World.block_lt_of_cell? w _ hx376_0)).trans hx376_0
                 replace hx376_1 := (HB.out.cell (World.block_lt_of_cell? w _ hx376_1)).trans hx376_1
                 replace hx376_2 := (HB.out.cell (World.block_lt_of_cell? w _ hx376_2)).trans hx376_2
                 replace p376 := eq_true p376; replace q376 := eq_true q376
                 refine start_ (n := 12) (S := fun w' => w'.cell? ⟨gb365, 0, none⟩ = some (.int .i64 ((rd_T48 l1 x7_2).f0)) ∧ w'.cell? ⟨gb365, 1, none⟩ = some (.int .i64 ((rd_T48 l1 x7_2).f1)) ∧ w'.cell? ⟨gb365, 2, none⟩ = some (.int .i64 ((rd_T48 l1 x7_2).f2)) ∧ w'.cell? (ad371.add ((((rd_T48 l1 x7_2).f0)).toNat * 2)) = some (.string ((rd_T46 l0 ((rd_T48 l1 x7_2).f0)).f0)) ∧ w'.cell? ⟨(ad371.add ((((rd_T48 l1 x7_2).f0)).toNat * 2)).block, (ad371.add ((((rd_T48 l1 x7_2).f0)).toNat * 2)).off + 1, none⟩ = some (.slice (some ad376) ((rd_T46 l0 ((rd_T48 l1 x7_2).f0)).f1).length c375_1) ∧ w'.cell? (ad376.add ((((rd_T48 l1 x7_2).f1)).toNat * 3)) = some (.int .i64 ((rd_T43 ((rd_T46 l0 ((rd_T48 l1 x7_2).f0)).f1) ((rd_T48 l1 x7_2).f1)).f0)) ∧ w'.cell? ⟨(ad376.add ((((rd_T48 l1 x7_2).f1)).toNat * 3)).block, (ad376.add ((((rd_T48 l1 x7_2).f1)).toNat * 3)).off + 1, none⟩ = some (.int .i64 ((rd_T43 ((rd_T46 l0 ((rd_T48 l1 x7_2).f0)).f1) ((rd_T48 l1 x7_2).f1)).f1)) ∧ w'.cell? ⟨(ad376.add ((((rd_T48 l1 x7_2).f1)).toNat * 3)).block, (ad376.add ((((rd_T48 l1 x7_2).f1)).toNat * 3)).off + 2, none⟩ = some (.int .i64 ((rd_T43 ((rd_T46 l0 ((rd_T48 l1 x7_2).f0)).f1) ((rd_T48 l1 x7_2).f1)).f2))) (ds := []) #[F,F,F,F,F,F,F,F,F,F,F,F] (by kernel_rfl) rfl rfl ⟨(blk_cell BK365.out 0).trans rfl, (blk_cell BK365.out 1).trans rfl, (blk_cell BK365.out 2).trans rfl, (nC HB.out hw375_0 :), (nC HB.out hw375_1 :), (nC HB.out hw376_0 :), (nC HB.out hw376_1 :), (nC HB.out hw376_2 :)⟩ (fun hHeld => ?_); refine with_tabW spec_LegsOk.tab11 spec_LegsOk.bits11 (fun HT_ HW_ => ?_)
                 generalize w83.drew = w84 at BK365 BK374 HB HR375_1 hx375_0 hx375_1 hx376_0 hx376_1 hx376_2 hHeld ⊢
                 refine qU 0 (some 84) rfl rfl HT_.out ?_
                 refine qU 1 (some 85) rfl rfl HT_.out ?_
                 refine qU 6 (some 90) rfl rfl HT_.out ?_
                 refine qT8 2 (some 86) rfl rfl HT_.out HW_.out hHeld ?_
                 refine qU 3 (some 87) rfl rfl HT_.out ?_
                 refine qU 4 (some 88) rfl rfl HT_.out ?_
                 refine qT8 5 (some 89) rfl rfl HT_.out HW_.out hHeld ?_
                 refine qT8 7 (some 91) rfl rfl HT_.out HW_.out hHeld ?_
                 refine qU 8 (some 92) rfl rfl HT_.out ?_
                 refine qT8 9 (some 93) rfl rfl HT_.out HW_.out hHeld ?_
                 refine one_ (i := 10) (N := some 10) #[T,T,T,T,T,T,T,T,T,T,T,F] rfl rfl (one_of HT_.out (by kernel_rfl)) (by decide) (fun K hK => ?_)
                 refine box_step ?hg (N := 10) ?hd (cs := #[.int .i64 0, .int .i64 0, .int .i64 0]) (t := 43) ?hr ?_; (case hd => rfl); (case hg => rfl); (case hr => first | (go_simp; done) | (go_simp; rfl))
                 intro gb377 hg w85 hbox hb
                 have n_ := aA (nBB BK365.out hb) <| aA (nBB BK374.out hb) <| aA (below_step (nH2 HB.out GE365.out GE374.out) hb) <| aA (hbox) <| aA (bS hg (nH2 HB.out GE365.out GE374.out)) <| aA (bS hg (nH2 HB.out GE365.out GE374.out)) <| aA (nBL BK365.out hg) <| aA (by rw [hg]; exact Nat.ne_of_gt (blk_lt (g := gb365) (o := .cells #[.int .i64 ((rd_T48 l1 x7_2).f0), .int .i64 ((rd_T48 l1 x7_2).f1), .int .i64 ((rd_T48 l1 x7_2).f2)] 48 (0, 0)) (nB BK365.out)) : gb377 ≠ gb365) <| aA (nBL BK374.out hg) <| aM (by rw [hg]; exact Nat.ne_of_gt (blk_lt (g := gb374) (o := .cells #[.int .i64 ((rd_T43 ((rd_T46 l0 ((rd_T48 l1 (ji33)).f0)).f1) ((rd_T48 l1 (ji33)).f2)).f0), .int .i64 ((rd_T43 ((rd_T46 l0 ((rd_T48 l1 (ji33)).f0)).f1) ((rd_T48 l1 (ji33)).f2)).f1), .int .i64 ((rd_T43 ((rd_T46 l0 ((rd_T48 l1 (ji33)).f0)).f1) ((rd_T48 l1 (ji33)).f2)).f2)] 43 (0, 0)) (nB BK374.out)) : gb377 ≠ gb374); clear BK365 BK374 HB; obtain ⟨BK365, BK374, HB, BK377, GW377, GE377, NB365_377, NB377_365, NB374_377, NB377_374⟩ := n_; clear hb hbox hg
                 refine hK.out _ _ ⟨(blk_cell BK365.out 0).trans rfl, (blk_cell BK365.out 1).trans rfl, (blk_cell BK365.out 2).trans rfl, (nC HB.out hw375_0 :), (nC HB.out hw375_1 :), (nC HB.out hw376_0 :), (nC HB.out hw376_1 :), (nC HB.out hw376_2 :)⟩ (fun hHeld => ?_)
                 clear hK K
                 refine norm_ (a' := ?_) ?_ ?_
                 rotate_left
                 · show Act.put _ (some 10) _ = _
                   simp only [Act.put, List.setIfInBounds_toArray, List.set_cons_zero, List.set_cons_succ, i64_w, i32_w]
                   rfl
                 refine one_ (i := 11) (N := none) #[T,T,T,T,T,T,T,T,T,T,T,T] rfl rfl (one_of HT_.out (by kernel_rfl)) (by decide) (fun K hK => ?_)
                 have hs86 : w85.cell? ⟨gb377, 0, none⟩ = some (.int .i64 0) := (blk_cell BK377.out 0).trans rfl
                 have hfs86 := blk_frozen BK377.out 0
                 have hns86_0 := NB365_377.out; have hns86_1 := NB374_377.out; have hms86_0 := NB377_365.out; have hms86_1 := NB377_374.out
                 have hs87 : w85.cell? ⟨gb377, 1, none⟩ = some (.int .i64 0) := (blk_cell BK377.out 1).trans rfl
                 have hfs87 := blk_frozen BK377.out 1
                 have hns87_0 := NB365_377.out; have hns87_1 := NB374_377.out; have hms87_0 := NB377_365.out; have hms87_1 := NB377_374.out
                 have hs88 : w85.cell? ⟨gb377, 2, none⟩ = some (.int .i64 0) := (blk_cell BK377.out 2).trans rfl
                 have hfs88 := blk_frozen BK377.out 2
                 have hns88_0 := NB365_377.out; have hns88_1 := NB374_377.out; have hms88_0 := NB377_365.out; have hms88_1 := NB377_374.out
                 refine skip_ (w1 := ?_) (by rfl) rfl ?_ ?_
                 rotate_left
                 · go_simp; rfl
                 refine hK.out _ _ ⟨((cell_far (p := ⟨gb377, _, none⟩) NB365_377.out _).trans (((cell_far (p := ⟨gb377, _, none⟩) NB365_377.out _).trans (((cell_far (p := ⟨gb377, _, none⟩) NB365_377.out _).trans (hHeld.1)))))), ((cell_far (p := ⟨gb377, _, none⟩) NB365_377.out _).trans (((cell_far (p := ⟨gb377, _, none⟩) NB365_377.out _).trans (((cell_far (p := ⟨gb377, _, none⟩) NB365_377.out _).trans (hHeld.2.1)))))), ((cell_far (p := ⟨gb377, _, none⟩) NB365_377.out _).trans (((cell_far (p := ⟨gb377, _, none⟩) NB365_377.out _).trans (((cell_far (p := ⟨gb377, _, none⟩) NB365_377.out _).trans (hHeld.2.2.1)))))), ((nF gb377 hw375_0 GW377.out).trans (((nF gb377 hw375_0 GW377.out).trans (((nF gb377 hw375_0 GW377.out).trans (hHeld.2.2.2.1)))))), ((nF gb377 hw375_1 GW377.out).trans (((nF gb377 hw375_1 GW377.out).trans (((nF gb377 hw375_1 GW377.out).trans (hHeld.2.2.2.2.1)))))), ((nF gb377 hw376_0 GW377.out).trans (((nF gb377 hw376_0 GW377.out).trans (((nF gb377 hw376_0 GW377.out).trans (hHeld.2.2.2.2.2.1)))))), ((nF gb377 hw376_1 GW377.out).trans (((nF gb377 hw376_1 GW377.out).trans (((nF gb377 hw376_1 GW377.out).trans (hHeld.2.2.2.2.2.2.1)))))), ((nF gb377 hw376_2 GW377.out).trans (((nF gb377 hw376_2 GW377.out).trans (((nF gb377 hw376_2 GW377.out).trans (hHeld.2.2.2.2.2.2.2))))))⟩ (fun hHeld => ?_)
                 clear hK K
                 refine done_ (done_of HT_.out (by kernel_rfl)) ?_
                 have hnb89 := NB374_365.out; have hnc89 := NB365_374.out; have hnb90 := NB374_377.out; have hnc90 := NB377_374.out
                 obtain ⟨hcz91_0, hcz91_1, hcz91_2, hfz91_0, hfz91_1, hfz91_2⟩ := nK3 BK374.out
                 have hnb92 := NB377_365.out; have hnc92 := NB365_377.out
                 obtain ⟨hcz93_0, hcz93_1, hcz93_2, hfz93_0, hfz93_1, hfz93_2⟩ := nK3 BK377.out
                 try go_wp2
                 go_ret
                 exact ⟨by first | rfl | (simp [errW_none, errW_some] <;> rfl) | (simp only [← hji33]; first | rfl | (simp [errW_none, errW_some] <;> rfl)) | (simp [*, errW_none, errW_some] <;> first | rfl | (simp [wrap64]; done)), nH3 HB.out GE365.out GE374.out GE377.out⟩
             · rw [if_neg c32] at H
               have c32b0 : decide (0 < x7_2) = false := decide_eq_false c32
               clear c32
               have H' := aM H
               clear H; go_wp2
               go_roundg kj14
               case measure => have := HJ3.out; have := HK2.out; have := HJ14.out; omega
               case rel => exact ⟨(wrap64 (x7_2 + 1)), nS, H', ⟨by have := HJ3.out; have := HK2.out; have := HJ14.out; omega⟩, ⟨nH1 HB.out GE365.out⟩⟩
       · rw [if_neg c13] at H
         have c13b0 : decide (x7_2 < (l1.length : Int)) = false := decide_eq_false c13
         clear c13; obtain rfl := Option.some.inj H; go_wp2; go_ret
         exact ⟨by first | rfl | (simp [errW_none, errW_some] <;> rfl) | (simp [*, errW_none, errW_some] <;> first | rfl | (simp [wrap64]; done)), nH HB.out⟩
end Go.Proofs.YtdpjoblnjjkbfaaDoor.P

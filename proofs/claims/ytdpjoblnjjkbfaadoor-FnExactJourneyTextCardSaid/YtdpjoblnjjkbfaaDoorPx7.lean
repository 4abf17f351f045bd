/- Contracts of the functions of the program, each one with its plain Lean function; written by a program of the session out of the translation. -/
import Derived.Test.YtdpjoblnjjkbfaaDoorNb
import Derived.Test.YtdpjoblnjjkbfaaDoorPx0
import Derived.Test.YtdpjoblnjjkbfaaDoorPx2
import Derived.Test.YtdpjoblnjjkbfaaDoorPx5
import Derived.Test.YtdpjoblnjjkbfaaDoorPx6
namespace Go.Proofs.YtdpjoblnjjkbfaaDoor.P
open Go.RowKit Go.Proofs.YtdpjoblnjjkbfaaDoorW.PrintWords Go.Proofs.YtdpjoblnjjkbfaaDoorW.PrintLast Go.Proofs.YtdpjoblnjjkbfaaDoorW.PrintMore
attribute [local go_sem] max2_int min2_int max_two min_two max_three min_three max_four min_four   -- for this text's walks alone
set_option linter.unusedVariables false
set_option linter.unusedSimpArgs false
/-! ### spec_LegsOk: function 20 -/
theorem spec_LegsOk.mono_l : ∀ k, (∀ y0 y1 y2 y3, LeO (spec_LegsOk.j0 k y0 y1 y2 y3) (spec_LegsOk.j0 (k + 1) y0 y1 y2 y3)) ∧ (∀ y0 y1 y2 y3, LeO (spec_LegsOk.l0 k y0 y1 y2 y3) (spec_LegsOk.l0 (k + 1) y0 y1 y2 y3)) ∧ (∀ y0 y1 y2 y3 y4 y5 y6 y7, LeO (spec_LegsOk.j2 k y0 y1 y2 y3 y4 y5 y6 y7) (spec_LegsOk.j2 (k + 1) y0 y1 y2 y3 y4 y5 y6 y7))
 | 0 => ⟨fun _ _ _ _ r h => by simp [spec_LegsOk.j0] at h, fun _ _ _ _ r h => by simp [spec_LegsOk.l0] at h, fun _ _ _ _ _ _ _ _ r h => by simp [spec_LegsOk.j2] at h⟩
 | k + 1 => by
  obtain ⟨ih0, ih1, ih2⟩ := spec_LegsOk.mono_l k
  refine ⟨?_, ?_, ?_⟩
  · intro y0 y1 y2 y3
    unfold spec_LegsOk.j0
    repeat' first
    | (with_reducible exact ih0 _ _ _ _)
    | (with_reducible exact ih1 _ _ _ _)
    | (with_reducible exact ih2 _ _ _ _ _ _ _ _)
    | (with_reducible exact spec_TableOk.mono _ _)
    | (with_reducible exact LeO.refl _)
    | (with_reducible exact LeO.none _)
    | (with_reducible refine LeO.ite ?_ ?_)
    | (with_reducible refine LeO.bind ?_ (fun _ => ?_))
    | exact ih0 _ _ _ _
    | exact ih1 _ _ _ _
    | exact ih2 _ _ _ _ _ _ _ _
    | exact spec_TableOk.mono _ _
    | exact LeO.none _
    | refine LeO.ite ?_ ?_
    | refine LeO.bind ?_ (fun _ => ?_)
  · intro y0 y1 y2 y3
    unfold spec_LegsOk.l0
    repeat' first
    | (with_reducible exact ih0 _ _ _ _)
    | (with_reducible exact ih1 _ _ _ _)
    | (with_reducible exact ih2 _ _ _ _ _ _ _ _)
    | (with_reducible exact spec_TableOk.mono _ _)
    | (with_reducible exact LeO.refl _)
    | (with_reducible exact LeO.none _)
    | (with_reducible refine LeO.ite ?_ ?_)
    | (with_reducible refine LeO.bind ?_ (fun _ => ?_))
    | exact ih0 _ _ _ _
    | exact ih1 _ _ _ _
    | exact ih2 _ _ _ _ _ _ _ _
    | exact spec_TableOk.mono _ _
    | exact LeO.none _
    | refine LeO.ite ?_ ?_
    | refine LeO.bind ?_ (fun _ => ?_)
  · intro y0 y1 y2 y3 y4 y5 y6 y7
    unfold spec_LegsOk.j2
    repeat' first
    | (with_reducible exact ih0 _ _ _ _)
    | (with_reducible exact ih1 _ _ _ _)
    | (with_reducible exact ih2 _ _ _ _ _ _ _ _)
    | (with_reducible exact spec_TableOk.mono _ _)
    | (with_reducible exact LeO.refl _)
    | (with_reducible exact LeO.none _)
    | (with_reducible refine LeO.ite ?_ ?_)
    | (with_reducible refine LeO.bind ?_ (fun _ => ?_))
    | exact ih0 _ _ _ _
    | exact ih1 _ _ _ _
    | exact ih2 _ _ _ _ _ _ _ _
    | exact spec_TableOk.mono _ _
    | exact LeO.none _
    | refine LeO.ite ?_ ?_
    | refine LeO.bind ?_ (fun _ => ?_)
theorem spec_LegsOk.mono : ∀ a0 a1 a2 k, LeO (spec_LegsOk.f k a0 a1 a2) (spec_LegsOk.f (k + 1) a0 a1 a2) := by
 intro a0 a1 a2 k
 obtain ⟨ih0, ih1, ih2⟩ := spec_LegsOk.mono_l k
 unfold spec_LegsOk.f
 repeat' first
  | (with_reducible exact ih0 _ _ _ _)
  | (with_reducible exact ih1 _ _ _ _)
  | (with_reducible exact ih2 _ _ _ _ _ _ _ _)
  | (with_reducible exact spec_TableOk.mono _ _)
  | (with_reducible exact LeO.refl _)
  | (with_reducible exact LeO.none _)
  | (with_reducible refine LeO.ite ?_ ?_)
  | (with_reducible refine LeO.bind ?_ (fun _ => ?_))
  | exact ih0 _ _ _ _
  | exact ih1 _ _ _ _
  | exact ih2 _ _ _ _ _ _ _ _
  | exact spec_TableOk.mono _ _
  | exact LeO.none _
  | refine LeO.ite ?_ ?_
  | refine LeO.bind ?_ (fun _ => ?_)
def spec_LegsOk.T7 : Bool × List (List Nat × List Nat) := (true, [([], []), ([0], [0]), ([], []), ([2], [2]), ([3], [3]), ([1, 4], [1, 4]), ([5], [5]), ([6, 5], [6]), ([7], [7]), ([8, 7], [7, 8]), ([7], [7]), ([7], [7]), ([11, 7], [7, 11]), ([10, 12, 7], [7, 10, 12]), ([13, 7], [7, 13]), ([14, 7], [7, 14]), ([15, 7], [7, 15]), ([16, 7], [7, 16]), ([9, 17, 7, 7], [7, 9, 17]), ([18, 7], [7, 18]), ([7, 19], [7, 19]), ([20, 18], [20]), ([21], [21]), ([22, 21], [21, 22]), ([21], [21]), ([24, 21], [21, 24]), ([25, 21], [21, 25]), ([23, 26, 21, 21], [21, 23, 26]), ([27, 21], [21, 27]), ([21, 28], [21, 28])])
def spec_LegsOk.B7 : List Nat := [0, 1, 0, 4, 12, 31, 63, 127, 255, 511, 255, 255, 2303, 7423, 15615, 31999, 64767, 130303, 262143, 524287, 1048575, 2097151, 4194303, 8388607, 4194303, 20971519, 54525951, 134217727, 268435455, 536870911]
theorem spec_LegsOk.tab7 : rtab .any (opsOf Tryd.f20 7) = spec_LegsOk.T7 := by kernel_rfl
theorem spec_LegsOk.bits7 : waitsOk spec_LegsOk.T7.2 spec_LegsOk.B7 = true := by kernel_rfl
def spec_LegsOk.T10 : Bool × List (List Nat × List Nat) := (true, [([], []), ([], []), ([], []), ([2], [2]), ([1, 3], [1, 3]), ([4], [4]), ([5], [5]), ([0, 6], [0, 6]), ([7], [7]), ([8], [8]), ([], []), ([], []), ([11], [11]), ([10, 12], [10, 12]), ([13], [13]), ([14], [14]), ([9, 15], [9, 15]), ([16], [16]), ([], []), ([18, 17, 0, 1, 2, 3, 4, 5, 6, 7, 8, 9, 10, 11, 12, 13, 14, 15, 16, 17, 18], [17, 18])])
def spec_LegsOk.B10 : List Nat := [0, 0, 0, 4, 14, 30, 62, 127, 255, 511, 0, 0, 2048, 7168, 15360, 31744, 65535, 131071, 0, 524287]
theorem spec_LegsOk.tab10 : rtab .any (opsOf Tryd.f20 10) = spec_LegsOk.T10 := by kernel_rfl
theorem spec_LegsOk.bits10 : waitsOk spec_LegsOk.T10.2 spec_LegsOk.B10 = true := by kernel_rfl
def spec_LegsOk.T11 : Bool × List (List Nat × List Nat) := (true, [([], []), ([], []), ([1], [1]), ([0, 2], [0, 2]), ([3], [3]), ([4], [4]), ([], []), ([6], [6]), ([5, 7], [5, 7]), ([8], [8]), ([], []), ([10, 9, 0, 1, 2, 3, 4, 5, 6, 7, 8, 9, 10], [9, 10])])
def spec_LegsOk.B11 : List Nat := [0, 0, 2, 7, 15, 31, 0, 64, 255, 511, 0, 2047]
theorem spec_LegsOk.tab11 : rtab .any (opsOf Tryd.f20 11) = spec_LegsOk.T11 := by kernel_rfl
theorem spec_LegsOk.bits11 : waitsOk spec_LegsOk.T11.2 spec_LegsOk.B11 = true := by kernel_rfl
set_option maxHeartbeats 8000000 in
set_option maxRecDepth 100000 in
theorem spec_LegsOk.calls (k : Nat) (A0 : Option Addr) (c0 : Nat) (l0 : List (S46)) (A1 : Option Addr) (c1 : Nat) (l1 : List (S48)) (a2 : Int) (r : Bool) (w : World) (hr0 : Kd.C k46 w A0 l0.length l0) (hc0 : l0.length ≤ c0) (hr1 : Kd.C k48 w A1 l1.length l1) (hc1 : l1.length ≤ c1) (h : spec_LegsOk.f k l0 l1 a2 = some r) :
 Calls Tryd.prog 20 #[.slice A0 l0.length c0, .slice A1 l1.length c1, .int .i64 a2] w fun e w' => e = .returned (.bool r) ∧ Below w.heap.size w w' := by
 have hu48 := Tryd.underlying48; have hu43 := Tryd.underlying43
 have HR0 := Aside0.mk hr0
 have HC0 := Aside0.mk hc0
 clear hr0 hc0
 have HR1 := Aside0.mk hr1
 have HC1 := Aside0.mk hc1
 clear hr1 hc1
 have HB := Aside0.mk (Below.refl w.heap.size w)
 have H : ((spec_TableOk.f k l0).bind fun t121 => (if t121 = true then ((spec_l12Change.f a2).bind fun t122 => (if t122 = true then (spec_LegsOk.j0 k l0 l1 a2 (decide ((l1.length : Int) > 5))) else (spec_LegsOk.j0 k l0 l1 a2 true))) else (spec_LegsOk.j0 k l0 l1 a2 true))) = some r := h
 clear h
 have HC4 := Aside0.mk H
 clear H
 go_enter Tryd.func20, Tryd.ntmps20
 go_upto_region 1 with (fail)
 go_cut [23] (fun v23 wc => ∃ (kq : Nat) (x23_3 : Bool), v23 = .bool x23_3 ∧ Aside0 (spec_LegsOk.j0 kq l0 l1 a2 x23_3 = some r) ∧ Aside0 (kq ≤ k) ∧ Aside0 (Below w.heap.size w wc))
 case first =>
  have H := HC4.out; clear HC4
  replace H := Option.bind_eq_some_iff.mp H
  obtain ⟨t121, A50, H⟩ := H
  replace H : (if t121 = true then ((spec_l12Change.f a2).bind fun t122 => (if t122 = true then (spec_LegsOk.j0 k l0 l1 a2 (decide ((l1.length : Int) > 5))) else (spec_LegsOk.j0 k l0 l1 a2 true))) else (spec_LegsOk.j0 k l0 l1 a2 true)) = some r := H
  have A5 := Aside0.mk A50
  clear A50
  by_cases c6 : t121 = true
  · subst c6
    have H1 : ((spec_l12Change.f a2).bind fun t122 => (if t122 = true then (spec_LegsOk.j0 k l0 l1 a2 (decide ((l1.length : Int) > 5))) else (spec_LegsOk.j0 k l0 l1 a2 true))) = some r := by rw [if_pos rfl] at H; exact H
    clear H; have H := H1; clear H1
    replace H := Option.bind_eq_some_iff.mp H
    obtain ⟨t122, A70, H⟩ := H
    replace H : (if t122 = true then (spec_LegsOk.j0 k l0 l1 a2 (decide ((l1.length : Int) > 5))) else (spec_LegsOk.j0 k l0 l1 a2 true)) = some r := H
    have A7 := Aside0.mk A70
    clear A70
    by_cases c8 : t122 = true
    · subst c8
      have H1 : (spec_LegsOk.j0 k l0 l1 a2 (decide ((l1.length : Int) > 5))) = some r := by rw [if_pos rfl] at H; exact H
      clear H; have H := H1; clear H1
      have H' := Aside0.mk H
      clear H
      go_wp2_with (first | ((with_reducible refine gate_callee (f := 45) rfl ?_); refine goesL_ (some 12) rfl rfl Tryd.func45 (by kernel_rfl) rfl #[.slice A0 l0.length c0] rfl (by (try simp only [List.map_toArray, List.map_cons, List.map_nil]); first | done | rfl | (simp only [List.length_drop, List.length_take]; rfl)) ?_; (with_reducible refine (spec_TableOk.calls k _ _ l0 true _ ?side1 ?side2 A5.out).mono ?_); (case side1 => repeat (first | exact (Kd.C_below HR0.out HB.out) | (with_reducible refine Kd.C_alloc ?_ _) | (with_reducible refine Kd.C_drewN ?_ _) | (with_reducible refine Kd.C_drew ?_))); (case side2 => exact HC0.out); rintro e w9 ⟨rfl, hb⟩; refine ⟨_, rfl, ?_⟩; have n0_ := Aside0.mk (below_step (nH HB.out) hb); clear HB; have HB := n0_; clear n0_; (try clear hb); (try clear hb2); (try clear hk); (try clear hi)) | (go_at_call 46; (with_reducible refine (spec_l12Change.calls a2 true _ A7.out).mono ?_); rintro e w' ⟨rfl, ⟨nd, rfl⟩⟩))
      go_meet
      case rel => exact ⟨_, (decide ((l1.length : Int) > 5)), nS, H', ⟨by first | omega | exact Nat.le_refl _⟩, ⟨nH HB.out⟩⟩
    · replace c8 := Bool.eq_false_iff.mpr c8
      subst c8
      have H1 : (spec_LegsOk.j0 k l0 l1 a2 true) = some r := by rw [if_neg (show ¬ (false = true) by decide)] at H; exact H
      clear H; have H := H1; clear H1
      have H' := Aside0.mk H
      clear H
      go_wp2_with (first | ((with_reducible refine gate_callee (f := 45) rfl ?_); refine goesL_ (some 12) rfl rfl Tryd.func45 (by kernel_rfl) rfl #[.slice A0 l0.length c0] rfl (by (try simp only [List.map_toArray, List.map_cons, List.map_nil]); first | done | rfl | (simp only [List.length_drop, List.length_take]; rfl)) ?_; (with_reducible refine (spec_TableOk.calls k _ _ l0 true _ ?side1 ?side2 A5.out).mono ?_); (case side1 => repeat (first | exact (Kd.C_below HR0.out HB.out) | (with_reducible refine Kd.C_alloc ?_ _) | (with_reducible refine Kd.C_drewN ?_ _) | (with_reducible refine Kd.C_drew ?_))); (case side2 => exact HC0.out); rintro e w10 ⟨rfl, hb⟩; refine ⟨_, rfl, ?_⟩; have n0_ := Aside0.mk (below_step (nH HB.out) hb); clear HB; have HB := n0_; clear n0_; (try clear hb); (try clear hb2); (try clear hk); (try clear hi)) | (go_at_call 46; (with_reducible refine (spec_l12Change.calls a2 false _ A7.out).mono ?_); rintro e w' ⟨rfl, ⟨nd, rfl⟩⟩))
      go_meet
      case rel => exact ⟨_, (true), nS, H', ⟨by first | omega | exact Nat.le_refl _⟩, ⟨nH HB.out⟩⟩
  · replace c6 := Bool.eq_false_iff.mpr c6
    subst c6
    have H1 : (spec_LegsOk.j0 k l0 l1 a2 true) = some r := by rw [if_neg (show ¬ (false = true) by decide)] at H; exact H
    clear H; have H := H1; clear H1
    have H' := Aside0.mk H
    clear H
    go_wp2_with (first | ((with_reducible refine gate_callee (f := 45) rfl ?_); refine goesL_ (some 12) rfl rfl Tryd.func45 (by kernel_rfl) rfl #[.slice A0 l0.length c0] rfl (by (try simp only [List.map_toArray, List.map_cons, List.map_nil]); first | done | rfl | (simp only [List.length_drop, List.length_take]; rfl)) ?_; (with_reducible refine (spec_TableOk.calls k _ _ l0 false _ ?side1 ?side2 A5.out).mono ?_); (case side1 => repeat (first | exact (Kd.C_below HR0.out HB.out) | (with_reducible refine Kd.C_alloc ?_ _) | (with_reducible refine Kd.C_drewN ?_ _) | (with_reducible refine Kd.C_drew ?_))); (case side2 => exact HC0.out); rintro e w11 ⟨rfl, hb⟩; refine ⟨_, rfl, ?_⟩; have n0_ := Aside0.mk (below_step (nH HB.out) hb); clear HB; have HB := n0_; clear n0_; (try clear hb); (try clear hb2); (try clear hk); (try clear hi)))
    go_meet
    case rel => exact ⟨_, (true), nS, H', ⟨by first | omega | exact Nat.le_refl _⟩, ⟨nH HB.out⟩⟩
 case rest =>
  clear HC4; try clear c1; try clear c2; try clear p2; try clear c4; try clear c6; try clear c8
  obtain ⟨kq, x23_3, rfl, HA, HJ3, HB⟩ := hcut
  cases kq with
  | zero => exact absurd HA.out (by simp [spec_LegsOk.j0])
  | succ kj3 =>
   have H := HA.out; clear HA
   simp only [spec_LegsOk.j0] at H
   by_cases c12 : x23_3 = true
   · subst c12
     have H1 : (some false) = some r := by rw [if_pos rfl] at H; exact H
     clear H; have H := H1; clear H1; obtain rfl := Option.some.inj H; go_wp2; go_ret
     exact ⟨by first | rfl | (simp [errW_none, errW_some] <;> rfl) | (simp [*, errW_none, errW_some] <;> first | rfl | (simp [wrap64]; done)), nH HB.out⟩
   · replace c12 := Bool.eq_false_iff.mpr c12
     subst c12
     have H1 : (spec_LegsOk.l0 kj3 l0 l1 a2 0) = some r := by rw [if_neg (show ¬ (false = true) by decide)] at H; exact H
     clear H; have H := H1; clear H1
     have H' := Aside0.mk H
     clear H; go_wp2
     go_loopg [7] kj3 (fun kq v7 w' => ∃ (x7_2 : Int), v7 = .int .i64 x7_2 ∧ Aside0 (spec_LegsOk.l0 kq l0 l1 a2 x7_2 = some r) ∧ Aside0 (kq ≤ kj3) ∧ Aside0 (Below w.heap.size w w'))
     case atStart => exact ⟨(0), nS, H', ⟨Nat.le_refl _⟩, ⟨nH HB.out⟩⟩
     case round =>
      clear H'
      try clear c1; try clear c2; try clear p2; try clear c4; try clear c6; try clear p6; try clear c8; try clear c12; try clear p2
      obtain ⟨x7_2, rfl, HA, HK2, HB⟩ := hrel
      cases gk with
      | zero => exact absurd HA.out (by simp [spec_LegsOk.l0])
      | succ k2 =>
       have H := HA.out; clear HA
       simp only [spec_LegsOk.l0] at H
       by_cases c13 : x7_2 < (l1.length : Int)
       · rw [if_pos c13] at H
         have c13b0 : decide (x7_2 < (l1.length : Int)) = true := decide_eq_true c13
         clear c13
         by_cases c14 : 0 ≤ x7_2
         rotate_left
         · (rw [if_neg c14] at H; exact absurd H (by simp))
         rw [if_pos c14] at H
         have c14b0 : decide (0 ≤ x7_2) = true := decide_eq_true c14
         clear c14
         have HC15 := Aside0.mk H
         clear H
         have p123 : 0 ≤ (x7_2 : Int) := of_decide_eq_true nQ
         have q123 : x7_2 < (l1.length : Int) := of_decide_eq_true nQ
         obtain ⟨ad123, e123, hx123_0, hx123_1, hx123_2⟩ := at_T48 HR1.out x7_2 p123 q123
         cases e123
         replace hx123_0 := (HB.out.cell (World.block_lt_of_cell? w _ hx123_0)).trans hx123_0
         replace hx123_1 := (HB.out.cell (World.block_lt_of_cell? w _ hx123_1)).trans hx123_1
         replace hx123_2 := (HB.out.cell (World.block_lt_of_cell? w _ hx123_2)).trans hx123_2
         replace p123 := eq_true p123; replace q123 := eq_true q123
         go_upto_region 7 with (first | ((with_reducible refine gate_dst (N := 8) rfl ?_); (try (refine gate_guard (by rfl) ?_; dsimp only)); refine box_event ?hg (N := 8) ?hd (cs := #[.int .i64 0, .int .i64 0, .int .i64 0]) (t := 48) ?hr ?_; (case hd => rfl); (case hg => rfl); (case hr => first | (go_simp; done) | (go_simp; rfl)); intro gb124 hg w16 hbox hb; have n0_ := Aside0.mk (below_step (nH HB.out) hb); have n1_ := Aside0.mk (hbox); have n2_ := Aside0.mk ((by rw [hg]; exact (below_size (nH HB.out)) : w.heap.size ≤ gb124)); have n3_ := Aside0.mk ((by rw [hg]; exact (below_size (nH HB.out)) : w.heap.size ≤ gb124)); clear HB; have HB := n0_; have BK124 := n1_; have GW124 := n2_; have GE124 := n3_; clear n0_ n1_ n2_ n3_; clear hb hbox hg; have hcz17_0 : w16.cell? ⟨gb124, 0, none⟩ = some (.int .i64 0) := (blk_cell BK124.out 0).trans rfl; have hcz17_1 : w16.cell? ⟨gb124, 1, none⟩ = some (.int .i64 0) := (blk_cell BK124.out 1).trans rfl; have hcz17_2 : w16.cell? ⟨gb124, 2, none⟩ = some (.int .i64 0) := (blk_cell BK124.out 2).trans rfl; have hfz17_0 := blk_frozen BK124.out 0; have hfz17_1 := blk_frozen BK124.out 1; have hfz17_2 := blk_frozen BK124.out 2))
         (try simp only [Act.put, List.setIfInBounds_toArray, List.set_cons_zero, List.set_cons_succ])
         go_cut [63] (fun v63 wc => ∃ (kq : Nat) (x63_14 : Bool), v63 = .bool x63_14 ∧ Aside0 (spec_LegsOk.j2 kq l0 l1 a2 x7_2 x63_14 ((rd_T48 l1 x7_2).f0) ((rd_T48 l1 x7_2).f1) ((rd_T48 l1 x7_2).f2) = some r) ∧ Aside0 (kq ≤ k2) ∧ Aside0 (wc.heap[gb124]? = some (.cells #[.int .i64 ((rd_T48 l1 x7_2).f0), .int .i64 ((rd_T48 l1 x7_2).f1), .int .i64 ((rd_T48 l1 x7_2).f2)] 48 (0, 0))) ∧ Aside0 (Below w.heap.size w wc))
         case first =>
          have H := HC15.out; clear HC15
          replace H := Option.bind_eq_some_iff.mp H
          obtain ⟨t125, A180, H⟩ := H
          replace H : (if t125 = true then (if 0 ≤ ((rd_T48 l1 x7_2).f0) then (if ((rd_T48 l1 x7_2).f0) < (l0.length : Int) then ((spec_l01In.f ((rd_T48 l1 x7_2).f2) 0 (wrap64 ((((rd_T46 l0 ((rd_T48 l1 x7_2).f0)).f1).length : Int) - 1))).bind fun t127 => (if t127 = true then ((spec_l01In.f ((rd_T48 l1 x7_2).f1) 0 (wrap64 (((rd_T48 l1 x7_2).f2) - 1))).bind fun t128 => (spec_LegsOk.j2 k2 l0 l1 a2 x7_2 (!t128) ((rd_T48 l1 x7_2).f0) ((rd_T48 l1 x7_2).f1) ((rd_T48 l1 x7_2).f2))) else (spec_LegsOk.j2 k2 l0 l1 a2 x7_2 true ((rd_T48 l1 x7_2).f0) ((rd_T48 l1 x7_2).f1) ((rd_T48 l1 x7_2).f2)))) else (none)) else (none)) else (spec_LegsOk.j2 k2 l0 l1 a2 x7_2 true ((rd_T48 l1 x7_2).f0) ((rd_T48 l1 x7_2).f1) ((rd_T48 l1 x7_2).f2))) = some r := H
          have A18 := Aside0.mk A180
          clear A180
          by_cases c19 : t125 = true
          · subst c19
            have H1 : (if 0 ≤ ((rd_T48 l1 x7_2).f0) then (if ((rd_T48 l1 x7_2).f0) < (l0.length : Int) then ((spec_l01In.f ((rd_T48 l1 x7_2).f2) 0 (wrap64 ((((rd_T46 l0 ((rd_T48 l1 x7_2).f0)).f1).length : Int) - 1))).bind fun t127 => (if t127 = true then ((spec_l01In.f ((rd_T48 l1 x7_2).f1) 0 (wrap64 (((rd_T48 l1 x7_2).f2) - 1))).bind fun t128 => (spec_LegsOk.j2 k2 l0 l1 a2 x7_2 (!t128) ((rd_T48 l1 x7_2).f0) ((rd_T48 l1 x7_2).f1) ((rd_T48 l1 x7_2).f2))) else (spec_LegsOk.j2 k2 l0 l1 a2 x7_2 true ((rd_T48 l1 x7_2).f0) ((rd_T48 l1 x7_2).f1) ((rd_T48 l1 x7_2).f2)))) else (none)) else (none)) = some r := by rw [if_pos rfl] at H; exact H
            clear H; have H := H1; clear H1
            by_cases c20 : 0 ≤ ((rd_T48 l1 x7_2).f0)
            rotate_left
            · (rw [if_neg c20] at H; exact absurd H (by simp))
            rw [if_pos c20] at H
            have c20b0 : decide (0 ≤ ((rd_T48 l1 x7_2).f0)) = true := decide_eq_true c20
            clear c20
            (first | rw [c20b0] | (simp only [i64_w, i32_w]; rw [c20b0]) | skip)
            by_cases c21 : ((rd_T48 l1 x7_2).f0) < (l0.length : Int)
            rotate_left
            · (rw [if_neg c21] at H; exact absurd H (by simp))
            rw [if_pos c21] at H
            have c21b0 : decide (((rd_T48 l1 x7_2).f0) < (l0.length : Int)) = true := decide_eq_true c21
            clear c21
            replace H := Option.bind_eq_some_iff.mp H
            obtain ⟨t127, A220, H⟩ := H
            replace H : (if t127 = true then ((spec_l01In.f ((rd_T48 l1 x7_2).f1) 0 (wrap64 (((rd_T48 l1 x7_2).f2) - 1))).bind fun t128 => (spec_LegsOk.j2 k2 l0 l1 a2 x7_2 (!t128) ((rd_T48 l1 x7_2).f0) ((rd_T48 l1 x7_2).f1) ((rd_T48 l1 x7_2).f2))) else (spec_LegsOk.j2 k2 l0 l1 a2 x7_2 true ((rd_T48 l1 x7_2).f0) ((rd_T48 l1 x7_2).f1) ((rd_T48 l1 x7_2).f2))) = some r := H
            have A22 := Aside0.mk A220
            clear A220
            by_cases c23 : t127 = true
            · subst c23
              have H1 : ((spec_l01In.f ((rd_T48 l1 x7_2).f1) 0 (wrap64 (((rd_T48 l1 x7_2).f2) - 1))).bind fun t128 => (spec_LegsOk.j2 k2 l0 l1 a2 x7_2 (!t128) ((rd_T48 l1 x7_2).f0) ((rd_T48 l1 x7_2).f1) ((rd_T48 l1 x7_2).f2))) = some r := by rw [if_pos rfl] at H; exact H
              clear H; have H := H1; clear H1
              replace H := Option.bind_eq_some_iff.mp H
              obtain ⟨t128, A240, H⟩ := H
              replace H : (spec_LegsOk.j2 k2 l0 l1 a2 x7_2 (!t128) ((rd_T48 l1 x7_2).f0) ((rd_T48 l1 x7_2).f1) ((rd_T48 l1 x7_2).f2)) = some r := H
              have A24 := Aside0.mk A240
              clear A240
              have H' := Aside0.mk H
              clear H
              try go_wp2
              have n0_ : Aside0 ((((w16.setCell ⟨gb124, 0, none⟩ (.int .i64 ((rd_T48 l1 x7_2).f0))).setCell ⟨gb124, 1, none⟩ (.int .i64 ((rd_T48 l1 x7_2).f1))).setCell ⟨gb124, 2, none⟩ (.int .i64 ((rd_T48 l1 x7_2).f2))).heap[gb124]? = some (.cells #[.int .i64 ((rd_T48 l1 x7_2).f0), .int .i64 ((rd_T48 l1 x7_2).f1), .int .i64 ((rd_T48 l1 x7_2).f2)] 48 (0, 0))) := ⟨by (with_reducible repeat (first | refine blk_drewN ?_ _ | refine blk_drew ?_ | refine blk_alloc ?_ _)); refine blk_put (cs := #[.int .i64 ((rd_T48 l1 x7_2).f0), .int .i64 ((rd_T48 l1 x7_2).f1), .int .i64 0]) ?_ 2 _ rfl; (with_reducible repeat (first | refine blk_drewN ?_ _ | refine blk_drew ?_ | refine blk_alloc ?_ _)); refine blk_put (cs := #[.int .i64 ((rd_T48 l1 x7_2).f0), .int .i64 0, .int .i64 0]) ?_ 1 _ rfl; (with_reducible repeat (first | refine blk_drewN ?_ _ | refine blk_drew ?_ | refine blk_alloc ?_ _)); refine blk_put (cs := #[.int .i64 0, .int .i64 0, .int .i64 0]) ?_ 0 _ rfl; (with_reducible repeat (first | refine blk_drewN ?_ _ | refine blk_drew ?_ | refine blk_alloc ?_ _)); exact BK124.out⟩
              have n1_ : Aside0 (Below w.heap.size w (((w16.setCell ⟨gb124, 0, none⟩ (.int .i64 ((rd_T48 l1 x7_2).f0))).setCell ⟨gb124, 1, none⟩ (.int .i64 ((rd_T48 l1 x7_2).f1))).setCell ⟨gb124, 2, none⟩ (.int .i64 ((rd_T48 l1 x7_2).f2)))) := ⟨nH1 HB.out GE124.out⟩
              (try clear BK124); (try clear HB)
              generalize (((w16.setCell ⟨gb124, 0, none⟩ (.int .i64 ((rd_T48 l1 x7_2).f0))).setCell ⟨gb124, 1, none⟩ (.int .i64 ((rd_T48 l1 x7_2).f1))).setCell ⟨gb124, 2, none⟩ (.int .i64 ((rd_T48 l1 x7_2).f2))) = w25 at n0_ n1_ ⊢
              have BK124 := n0_; have HB := n1_; clear n0_ n1_
              have n0_ := Aside0.mk (blk_drew BK124.out)
              have n1_ := Aside0.mk (below_drew1 HB.out)
              clear BK124; clear HB; have BK124 := n0_; have HB := n1_; clear n0_ n1_
              have p126 : 0 ≤ (((rd_T48 l1 x7_2).f0) : Int) := of_decide_eq_true nQ
              have q126 : ((rd_T48 l1 x7_2).f0) < (l0.length : Int) := of_decide_eq_true nQ
              obtain ⟨ad126, A126_1, c126_1, e126, hx126_0, hx126_1, hl126_1, hi126_1⟩ := at_T46 HR0.out ((rd_T48 l1 x7_2).f0) p126 q126
              have hw126_1 := hx126_1; have hw126_0 := hx126_0; cases e126
              replace hx126_0 := (HB.out.cell (World.block_lt_of_cell? w _ hx126_0)).trans hx126_0
              replace hx126_1 := (HB.out.cell (World.block_lt_of_cell? w _ hx126_1)).trans hx126_1
              have HR126_1 := Aside0.mk hi126_1
              have HC126_1 := Aside0.mk hl126_1
              clear hi126_1 hl126_1; replace p126 := eq_true p126; replace q126 := eq_true q126
              refine start_ (n := 30) (S := fun w' => w'.cell? ⟨gb124, 0, none⟩ = some (.int .i64 ((rd_T48 l1 x7_2).f0)) ∧ w'.cell? ⟨gb124, 1, none⟩ = some (.int .i64 ((rd_T48 l1 x7_2).f1)) ∧ w'.cell? ⟨gb124, 2, none⟩ = some (.int .i64 ((rd_T48 l1 x7_2).f2)) ∧ w'.cell? (ad126.add ((((rd_T48 l1 x7_2).f0)).toNat * 2)) = some (.string ((rd_T46 l0 ((rd_T48 l1 x7_2).f0)).f0)) ∧ w'.cell? ⟨(ad126.add ((((rd_T48 l1 x7_2).f0)).toNat * 2)).block, (ad126.add ((((rd_T48 l1 x7_2).f0)).toNat * 2)).off + 1, none⟩ = some (.slice A126_1 ((rd_T46 l0 ((rd_T48 l1 x7_2).f0)).f1).length c126_1)) (ds := []) #[F,F,F,F,F,F,F,F,F,F,F,F,F,F,F,F,F,F,F,F,F,F,F,F,F,F,F,F,F,F] (by kernel_rfl) rfl rfl ⟨(blk_cell BK124.out 0).trans rfl, (blk_cell BK124.out 1).trans rfl, (blk_cell BK124.out 2).trans rfl, (nC HB.out hw126_0 :), (nC HB.out hw126_1 :)⟩ (fun hHeld => ?_); refine with_tabW spec_LegsOk.tab7 spec_LegsOk.bits7 (fun HT_ HW_ => ?_)
              generalize w25.drew = w26 at BK124 HB HR126_1 hx126_0 hx126_1 hHeld ⊢
              refine pU 0 (some 34) #[T,F,F,F,F,F,F,F,F,F,F,F,F,F,F,F,F,F,F,F,F,F,F,F,F,F,F,F,F,F] rfl rfl HT_.out ?_
              refine pU 2 (some 36) #[T,F,T,F,F,F,F,F,F,F,F,F,F,F,F,F,F,F,F,F,F,F,F,F,F,F,F,F,F,F] rfl rfl HT_.out ?_
              refine pU 3 (some 37) #[T,F,T,T,F,F,F,F,F,F,F,F,F,F,F,F,F,F,F,F,F,F,F,F,F,F,F,F,F,F] rfl rfl HT_.out ?_
              refine pU 4 (some 38) #[T,F,T,T,T,F,F,F,F,F,F,F,F,F,F,F,F,F,F,F,F,F,F,F,F,F,F,F,F,F] rfl rfl HT_.out ?_
              refine tU5 1 (some 35) #[T,T,T,T,T,F,F,F,F,F,F,F,F,F,F,F,F,F,F,F,F,F,F,F,F,F,F,F,F,F] rfl rfl HT_.out HW_.out hHeld ?_
              refine one_ (i := 5) (N := some 39) #[T,T,T,T,T,T,F,F,F,F,F,F,F,F,F,F,F,F,F,F,F,F,F,F,F,F,F,F,F,F] rfl rfl (one_of HT_.out (by kernel_rfl)) (by decide) (fun K hK => ?_)
              refine goes_ Tryd.func47 (by kernel_rfl) rfl #[.int .i64 ((rd_T48 l1 x7_2).f0), .int .i64 0, .int .i64 (wrap64 ((l0.length : Int) - 1))] (by rfl) rfl rfl (by (try simp only [List.map_toArray, List.map_cons, List.map_nil]); first | done | rfl | (simp only [List.length_drop, List.length_take]; rfl)) ?_
              with_reducible refine (spec_l01In.calls ((rd_T48 l1 x7_2).f0) 0 (wrap64 ((l0.length : Int) - 1)) true _ A18.out).mono ?_
              rintro e w' ⟨rfl, ⟨nd, rfl⟩⟩
              refine ⟨_, rfl, ?_⟩
              refine hK.out _ _ ⟨(blk_cell BK124.out 0).trans rfl, (blk_cell BK124.out 1).trans rfl, (blk_cell BK124.out 2).trans rfl, (nC HB.out hw126_0 :), (nC HB.out hw126_1 :)⟩ (fun hHeld => ?_)
              clear hK K
              refine norm_ (a' := ?_) ?_ ?_
              rotate_left
              · show Act.put _ (some 39) _ = _
                simp only [Act.put, List.setIfInBounds_toArray, List.set_cons_zero, List.set_cons_succ, i64_w, i32_w]
                rfl
              refine pU 6 (some 40) #[T,T,T,T,T,T,T,F,F,F,F,F,F,F,F,F,F,F,F,F,F,F,F,F,F,F,F,F,F,F] rfl rfl HT_.out ?_
              refine pU 7 (some 41) #[T,T,T,T,T,T,T,T,F,F,F,F,F,F,F,F,F,F,F,F,F,F,F,F,F,F,F,F,F,F] rfl rfl HT_.out ?_
              refine pU 8 (some 42) #[T,T,T,T,T,T,T,T,T,F,F,F,F,F,F,F,F,F,F,F,F,F,F,F,F,F,F,F,F,F] rfl rfl HT_.out ?_
              refine pU 10 (some 44) #[T,T,T,T,T,T,T,T,T,F,T,F,F,F,F,F,F,F,F,F,F,F,F,F,F,F,F,F,F,F] rfl rfl HT_.out ?_
              refine pU 11 (some 45) #[T,T,T,T,T,T,T,T,T,F,T,T,F,F,F,F,F,F,F,F,F,F,F,F,F,F,F,F,F,F] rfl rfl HT_.out ?_
              refine tU5 9 (some 43) #[T,T,T,T,T,T,T,T,T,T,T,T,F,F,F,F,F,F,F,F,F,F,F,F,F,F,F,F,F,F] rfl rfl HT_.out HW_.out hHeld ?_
              refine tU5 12 (some 46) #[T,T,T,T,T,T,T,T,T,T,T,T,T,F,F,F,F,F,F,F,F,F,F,F,F,F,F,F,F,F] rfl rfl HT_.out HW_.out hHeld ?_
              refine pU 13 (some 47) #[T,T,T,T,T,T,T,T,T,T,T,T,T,T,F,F,F,F,F,F,F,F,F,F,F,F,F,F,F,F] rfl rfl HT_.out ?_
              refine pU 14 (some 48) #[T,T,T,T,T,T,T,T,T,T,T,T,T,T,T,F,F,F,F,F,F,F,F,F,F,F,F,F,F,F] rfl rfl HT_.out ?_
              refine tU5 15 (some 49) #[T,T,T,T,T,T,T,T,T,T,T,T,T,T,T,T,F,F,F,F,F,F,F,F,F,F,F,F,F,F] rfl rfl HT_.out HW_.out hHeld ?_
              refine pU 16 (some 50) #[T,T,T,T,T,T,T,T,T,T,T,T,T,T,T,T,T,F,F,F,F,F,F,F,F,F,F,F,F,F] rfl rfl HT_.out ?_
              refine pU 17 (some 51) #[T,T,T,T,T,T,T,T,T,T,T,T,T,T,T,T,T,T,F,F,F,F,F,F,F,F,F,F,F,F] rfl rfl HT_.out ?_
              refine one_ (i := 18) (N := some 52) #[T,T,T,T,T,T,T,T,T,T,T,T,T,T,T,T,T,T,T,F,F,F,F,F,F,F,F,F,F,F] rfl rfl (one_of HT_.out (by kernel_rfl)) (by decide) (fun K hK => ?_)
              refine goes_ Tryd.func47 (by kernel_rfl) rfl #[.int .i64 ((rd_T48 l1 x7_2).f2), .int .i64 0, .int .i64 (wrap64 ((((rd_T46 l0 ((rd_T48 l1 x7_2).f0)).f1).length : Int) - 1))] (by rfl) rfl rfl (by (try simp only [List.map_toArray, List.map_cons, List.map_nil]); first | done | rfl | (simp only [List.length_drop, List.length_take]; rfl)) ?_
              with_reducible refine (spec_l01In.calls ((rd_T48 l1 x7_2).f2) 0 (wrap64 ((((rd_T46 l0 ((rd_T48 l1 x7_2).f0)).f1).length : Int) - 1)) true _ A22.out).mono ?_
              rintro e w' ⟨rfl, ⟨nd, rfl⟩⟩
              refine ⟨_, rfl, ?_⟩
              refine hK.out _ _ ⟨(blk_cell BK124.out 0).trans rfl, (blk_cell BK124.out 1).trans rfl, (blk_cell BK124.out 2).trans rfl, (nC HB.out hw126_0 :), (nC HB.out hw126_1 :)⟩ (fun hHeld => ?_)
              clear hK K
              refine norm_ (a' := ?_) ?_ ?_
              rotate_left
              · show Act.put _ (some 52) _ = _
                simp only [Act.put, List.setIfInBounds_toArray, List.set_cons_zero, List.set_cons_succ, i64_w, i32_w]
                rfl
              refine pU 19 (some 53) #[T,T,T,T,T,T,T,T,T,T,T,T,T,T,T,T,T,T,T,T,F,F,F,F,F,F,F,F,F,F] rfl rfl HT_.out ?_
              refine pU 20 (some 54) #[T,T,T,T,T,T,T,T,T,T,T,T,T,T,T,T,T,T,T,T,T,F,F,F,F,F,F,F,F,F] rfl rfl HT_.out ?_
              refine pU 21 (some 55) #[T,T,T,T,T,T,T,T,T,T,T,T,T,T,T,T,T,T,T,T,T,T,F,F,F,F,F,F,F,F] rfl rfl HT_.out ?_
              refine pU 22 (some 56) #[T,T,T,T,T,T,T,T,T,T,T,T,T,T,T,T,T,T,T,T,T,T,T,F,F,F,F,F,F,F] rfl rfl HT_.out ?_
              refine pU 24 (some 58) #[T,T,T,T,T,T,T,T,T,T,T,T,T,T,T,T,T,T,T,T,T,T,T,F,T,F,F,F,F,F] rfl rfl HT_.out ?_
              refine tU5 23 (some 57) #[T,T,T,T,T,T,T,T,T,T,T,T,T,T,T,T,T,T,T,T,T,T,T,T,T,F,F,F,F,F] rfl rfl HT_.out HW_.out hHeld ?_
              refine tU5 25 (some 59) #[T,T,T,T,T,T,T,T,T,T,T,T,T,T,T,T,T,T,T,T,T,T,T,T,T,T,F,F,F,F] rfl rfl HT_.out HW_.out hHeld ?_
              refine pU 26 (some 60) #[T,T,T,T,T,T,T,T,T,T,T,T,T,T,T,T,T,T,T,T,T,T,T,T,T,T,T,F,F,F] rfl rfl HT_.out ?_
              refine one_ (i := 27) (N := some 61) #[T,T,T,T,T,T,T,T,T,T,T,T,T,T,T,T,T,T,T,T,T,T,T,T,T,T,T,T,F,F] rfl rfl (one_of HT_.out (by kernel_rfl)) (by decide) (fun K hK => ?_)
              refine goes_ Tryd.func47 (by kernel_rfl) rfl #[.int .i64 ((rd_T48 l1 x7_2).f1), .int .i64 0, .int .i64 (wrap64 (((rd_T48 l1 x7_2).f2) - 1))] (by rfl) rfl rfl (by (try simp only [List.map_toArray, List.map_cons, List.map_nil]); first | done | rfl | (simp only [List.length_drop, List.length_take]; rfl)) ?_
              with_reducible refine (spec_l01In.calls ((rd_T48 l1 x7_2).f1) 0 (wrap64 (((rd_T48 l1 x7_2).f2) - 1)) t128 _ A24.out).mono ?_
              rintro e w' ⟨rfl, ⟨nd, rfl⟩⟩
              refine ⟨_, rfl, ?_⟩
              refine hK.out _ _ ⟨(blk_cell BK124.out 0).trans rfl, (blk_cell BK124.out 1).trans rfl, (blk_cell BK124.out 2).trans rfl, (nC HB.out hw126_0 :), (nC HB.out hw126_1 :)⟩ (fun hHeld => ?_)
              clear hK K
              refine norm_ (a' := ?_) ?_ ?_
              rotate_left
              · show Act.put _ (some 61) _ = _
                simp only [Act.put, List.setIfInBounds_toArray, List.set_cons_zero, List.set_cons_succ, i64_w, i32_w]
                rfl
              refine pU 28 (some 62) #[T,T,T,T,T,T,T,T,T,T,T,T,T,T,T,T,T,T,T,T,T,T,T,T,T,T,T,T,T,F] rfl rfl HT_.out ?_
              refine pU 29 (some 63) #[T,T,T,T,T,T,T,T,T,T,T,T,T,T,T,T,T,T,T,T,T,T,T,T,T,T,T,T,T,T] rfl rfl HT_.out ?_
              refine done_ (done_of HT_.out (by kernel_rfl)) ?_
              try go_wp2
              go_meet
              case rel => exact ⟨_, (!t128), nS, H', ⟨by have := HJ3.out; have := HK2.out; first | omega | exact Nat.le_refl _⟩, ⟨by (with_reducible repeat (first | refine blk_drewN ?_ _ | refine blk_drew ?_ | refine blk_alloc ?_ _)); exact BK124.out⟩, ⟨nH1 HB.out GE124.out⟩⟩
            · replace c23 := Bool.eq_false_iff.mpr c23
              subst c23
              have H1 : (spec_LegsOk.j2 k2 l0 l1 a2 x7_2 true ((rd_T48 l1 x7_2).f0) ((rd_T48 l1 x7_2).f1) ((rd_T48 l1 x7_2).f2)) = some r := by rw [if_neg (show ¬ (false = true) by decide)] at H; exact H
              clear H; have H := H1; clear H1
              have H' := Aside0.mk H
              clear H
              try go_wp2
              have n0_ : Aside0 ((((w16.setCell ⟨gb124, 0, none⟩ (.int .i64 ((rd_T48 l1 x7_2).f0))).setCell ⟨gb124, 1, none⟩ (.int .i64 ((rd_T48 l1 x7_2).f1))).setCell ⟨gb124, 2, none⟩ (.int .i64 ((rd_T48 l1 x7_2).f2))).heap[gb124]? = some (.cells #[.int .i64 ((rd_T48 l1 x7_2).f0), .int .i64 ((rd_T48 l1 x7_2).f1), .int .i64 ((rd_T48 l1 x7_2).f2)] 48 (0, 0))) := ⟨by (with_reducible repeat (first | refine blk_drewN ?_ _ | refine blk_drew ?_ | refine blk_alloc ?_ _)); refine blk_put (cs := #[.int .i64 ((rd_T48 l1 x7_2).f0), .int .i64 ((rd_T48 l1 x7_2).f1), .int .i64 0]) ?_ 2 _ rfl; (with_reducible repeat (first | refine blk_drewN ?_ _ | refine blk_drew ?_ | refine blk_alloc ?_ _)); refine blk_put (cs := #[.int .i64 ((rd_T48 l1 x7_2).f0), .int .i64 0, .int .i64 0]) ?_ 1 _ rfl; (with_reducible repeat (first | refine blk_drewN ?_ _ | refine blk_drew ?_ | refine blk_alloc ?_ _)); refine blk_put (cs := #[.int .i64 0, .int .i64 0, .int .i64 0]) ?_ 0 _ rfl; (with_reducible repeat (first | refine blk_drewN ?_ _ | refine blk_drew ?_ | refine blk_alloc ?_ _)); exact BK124.out⟩
              have n1_ : Aside0 (Below w.heap.size w (((w16.setCell ⟨gb124, 0, none⟩ (.int .i64 ((rd_T48 l1 x7_2).f0))).setCell ⟨gb124, 1, none⟩ (.int .i64 ((rd_T48 l1 x7_2).f1))).setCell ⟨gb124, 2, none⟩ (.int .i64 ((rd_T48 l1 x7_2).f2)))) := ⟨nH1 HB.out GE124.out⟩
              (try clear BK124); (try clear HB)
              generalize (((w16.setCell ⟨gb124, 0, none⟩ (.int .i64 ((rd_T48 l1 x7_2).f0))).setCell ⟨gb124, 1, none⟩ (.int .i64 ((rd_T48 l1 x7_2).f1))).setCell ⟨gb124, 2, none⟩ (.int .i64 ((rd_T48 l1 x7_2).f2))) = w27 at n0_ n1_ ⊢
              have BK124 := n0_; have HB := n1_; clear n0_ n1_
              have n0_ := Aside0.mk (blk_drew BK124.out)
              have n1_ := Aside0.mk (below_drew1 HB.out)
              clear BK124; clear HB; have BK124 := n0_; have HB := n1_; clear n0_ n1_
              have p126 : 0 ≤ (((rd_T48 l1 x7_2).f0) : Int) := of_decide_eq_true nQ
              have q126 : ((rd_T48 l1 x7_2).f0) < (l0.length : Int) := of_decide_eq_true nQ
              obtain ⟨ad126, A126_1, c126_1, e126, hx126_0, hx126_1, hl126_1, hi126_1⟩ := at_T46 HR0.out ((rd_T48 l1 x7_2).f0) p126 q126
              have hw126_1 := hx126_1; have hw126_0 := hx126_0; cases e126
              replace hx126_0 := (HB.out.cell (World.block_lt_of_cell? w _ hx126_0)).trans hx126_0
              replace hx126_1 := (HB.out.cell (World.block_lt_of_cell? w _ hx126_1)).trans hx126_1
              have HR126_1 := Aside0.mk hi126_1
              have HC126_1 := Aside0.mk hl126_1
              clear hi126_1 hl126_1; replace p126 := eq_true p126; replace q126 := eq_true q126
              refine start_ (n := 30) (S := fun w' => w'.cell? ⟨gb124, 0, none⟩ = some (.int .i64 ((rd_T48 l1 x7_2).f0)) ∧ w'.cell? ⟨gb124, 1, none⟩ = some (.int .i64 ((rd_T48 l1 x7_2).f1)) ∧ w'.cell? ⟨gb124, 2, none⟩ = some (.int .i64 ((rd_T48 l1 x7_2).f2)) ∧ w'.cell? (ad126.add ((((rd_T48 l1 x7_2).f0)).toNat * 2)) = some (.string ((rd_T46 l0 ((rd_T48 l1 x7_2).f0)).f0)) ∧ w'.cell? ⟨(ad126.add ((((rd_T48 l1 x7_2).f0)).toNat * 2)).block, (ad126.add ((((rd_T48 l1 x7_2).f0)).toNat * 2)).off + 1, none⟩ = some (.slice A126_1 ((rd_T46 l0 ((rd_T48 l1 x7_2).f0)).f1).length c126_1)) (ds := []) #[F,F,F,F,F,F,F,F,F,F,F,F,F,F,F,F,F,F,F,F,F,F,F,F,F,F,F,F,F,F] (by kernel_rfl) rfl rfl ⟨(blk_cell BK124.out 0).trans rfl, (blk_cell BK124.out 1).trans rfl, (blk_cell BK124.out 2).trans rfl, (nC HB.out hw126_0 :), (nC HB.out hw126_1 :)⟩ (fun hHeld => ?_); refine with_tabW spec_LegsOk.tab7 spec_LegsOk.bits7 (fun HT_ HW_ => ?_)
              generalize w27.drew = w28 at BK124 HB HR126_1 hx126_0 hx126_1 hHeld ⊢
              refine pU 0 (some 34) #[T,F,F,F,F,F,F,F,F,F,F,F,F,F,F,F,F,F,F,F,F,F,F,F,F,F,F,F,F,F] rfl rfl HT_.out ?_
              refine pU 2 (some 36) #[T,F,T,F,F,F,F,F,F,F,F,F,F,F,F,F,F,F,F,F,F,F,F,F,F,F,F,F,F,F] rfl rfl HT_.out ?_
              refine pU 3 (some 37) #[T,F,T,T,F,F,F,F,F,F,F,F,F,F,F,F,F,F,F,F,F,F,F,F,F,F,F,F,F,F] rfl rfl HT_.out ?_
              refine pU 4 (some 38) #[T,F,T,T,T,F,F,F,F,F,F,F,F,F,F,F,F,F,F,F,F,F,F,F,F,F,F,F,F,F] rfl rfl HT_.out ?_
              refine tU5 1 (some 35) #[T,T,T,T,T,F,F,F,F,F,F,F,F,F,F,F,F,F,F,F,F,F,F,F,F,F,F,F,F,F] rfl rfl HT_.out HW_.out hHeld ?_
              refine one_ (i := 5) (N := some 39) #[T,T,T,T,T,T,F,F,F,F,F,F,F,F,F,F,F,F,F,F,F,F,F,F,F,F,F,F,F,F] rfl rfl (one_of HT_.out (by kernel_rfl)) (by decide) (fun K hK => ?_)
              refine goes_ Tryd.func47 (by kernel_rfl) rfl #[.int .i64 ((rd_T48 l1 x7_2).f0), .int .i64 0, .int .i64 (wrap64 ((l0.length : Int) - 1))] (by rfl) rfl rfl (by (try simp only [List.map_toArray, List.map_cons, List.map_nil]); first | done | rfl | (simp only [List.length_drop, List.length_take]; rfl)) ?_
              with_reducible refine (spec_l01In.calls ((rd_T48 l1 x7_2).f0) 0 (wrap64 ((l0.length : Int) - 1)) true _ A18.out).mono ?_
              rintro e w' ⟨rfl, ⟨nd, rfl⟩⟩
              refine ⟨_, rfl, ?_⟩
              refine hK.out _ _ ⟨(blk_cell BK124.out 0).trans rfl, (blk_cell BK124.out 1).trans rfl, (blk_cell BK124.out 2).trans rfl, (nC HB.out hw126_0 :), (nC HB.out hw126_1 :)⟩ (fun hHeld => ?_)
              clear hK K
              refine norm_ (a' := ?_) ?_ ?_
              rotate_left
              · show Act.put _ (some 39) _ = _
                simp only [Act.put, List.setIfInBounds_toArray, List.set_cons_zero, List.set_cons_succ, i64_w, i32_w]
                rfl
              refine pU 6 (some 40) #[T,T,T,T,T,T,T,F,F,F,F,F,F,F,F,F,F,F,F,F,F,F,F,F,F,F,F,F,F,F] rfl rfl HT_.out ?_
              refine pU 7 (some 41) #[T,T,T,T,T,T,T,T,F,F,F,F,F,F,F,F,F,F,F,F,F,F,F,F,F,F,F,F,F,F] rfl rfl HT_.out ?_
              refine pU 8 (some 42) #[T,T,T,T,T,T,T,T,T,F,F,F,F,F,F,F,F,F,F,F,F,F,F,F,F,F,F,F,F,F] rfl rfl HT_.out ?_
              refine pU 10 (some 44) #[T,T,T,T,T,T,T,T,T,F,T,F,F,F,F,F,F,F,F,F,F,F,F,F,F,F,F,F,F,F] rfl rfl HT_.out ?_
              refine pU 11 (some 45) #[T,T,T,T,T,T,T,T,T,F,T,T,F,F,F,F,F,F,F,F,F,F,F,F,F,F,F,F,F,F] rfl rfl HT_.out ?_
              refine tU5 9 (some 43) #[T,T,T,T,T,T,T,T,T,T,T,T,F,F,F,F,F,F,F,F,F,F,F,F,F,F,F,F,F,F] rfl rfl HT_.out HW_.out hHeld ?_
              refine tU5 12 (some 46) #[T,T,T,T,T,T,T,T,T,T,T,T,T,F,F,F,F,F,F,F,F,F,F,F,F,F,F,F,F,F] rfl rfl HT_.out HW_.out hHeld ?_
              refine pU 13 (some 47) #[T,T,T,T,T,T,T,T,T,T,T,T,T,T,F,F,F,F,F,F,F,F,F,F,F,F,F,F,F,F] rfl rfl HT_.out ?_
              refine pU 14 (some 48) #[T,T,T,T,T,T,T,T,T,T,T,T,T,T,T,F,F,F,F,F,F,F,F,F,F,F,F,F,F,F] rfl rfl HT_.out ?_
              refine tU5 15 (some 49) #[T,T,T,T,T,T,T,T,T,T,T,T,T,T,T,T,F,F,F,F,F,F,F,F,F,F,F,F,F,F] rfl rfl HT_.out HW_.out hHeld ?_
              refine pU 16 (some 50) #[T,T,T,T,T,T,T,T,T,T,T,T,T,T,T,T,T,F,F,F,F,F,F,F,F,F,F,F,F,F] rfl rfl HT_.out ?_
              refine pU 17 (some 51) #[T,T,T,T,T,T,T,T,T,T,T,T,T,T,T,T,T,T,F,F,F,F,F,F,F,F,F,F,F,F] rfl rfl HT_.out ?_
              refine one_ (i := 18) (N := some 52) #[T,T,T,T,T,T,T,T,T,T,T,T,T,T,T,T,T,T,T,F,F,F,F,F,F,F,F,F,F,F] rfl rfl (one_of HT_.out (by kernel_rfl)) (by decide) (fun K hK => ?_)
              refine goes_ Tryd.func47 (by kernel_rfl) rfl #[.int .i64 ((rd_T48 l1 x7_2).f2), .int .i64 0, .int .i64 (wrap64 ((((rd_T46 l0 ((rd_T48 l1 x7_2).f0)).f1).length : Int) - 1))] (by rfl) rfl rfl (by (try simp only [List.map_toArray, List.map_cons, List.map_nil]); first | done | rfl | (simp only [List.length_drop, List.length_take]; rfl)) ?_
              with_reducible refine (spec_l01In.calls ((rd_T48 l1 x7_2).f2) 0 (wrap64 ((((rd_T46 l0 ((rd_T48 l1 x7_2).f0)).f1).length : Int) - 1)) false _ A22.out).mono ?_
              rintro e w' ⟨rfl, ⟨nd, rfl⟩⟩
              refine ⟨_, rfl, ?_⟩
              refine hK.out _ _ ⟨(blk_cell BK124.out 0).trans rfl, (blk_cell BK124.out 1).trans rfl, (blk_cell BK124.out 2).trans rfl, (nC HB.out hw126_0 :), (nC HB.out hw126_1 :)⟩ (fun hHeld => ?_)
              clear hK K
              refine norm_ (a' := ?_) ?_ ?_
              rotate_left
              · show Act.put _ (some 52) _ = _
                simp only [Act.put, List.setIfInBounds_toArray, List.set_cons_zero, List.set_cons_succ, i64_w, i32_w]
                rfl
              refine pU 19 (some 53) #[T,T,T,T,T,T,T,T,T,T,T,T,T,T,T,T,T,T,T,T,F,F,F,F,F,F,F,F,F,F] rfl rfl HT_.out ?_
              refine pU 20 (some 54) #[T,T,T,T,T,T,T,T,T,T,T,T,T,T,T,T,T,T,T,T,T,F,F,F,F,F,F,F,F,F] rfl rfl HT_.out ?_
              refine pU 21 (some 55) #[T,T,T,T,T,T,T,T,T,T,T,T,T,T,T,T,T,T,T,T,T,T,F,F,F,F,F,F,F,F] rfl rfl HT_.out ?_
              refine pV 22 (some 56) #[T,T,T,T,T,T,T,T,T,T,T,T,T,T,T,T,T,T,T,T,T,T,T,F,F,F,F,F,F,F] rfl rfl HT_.out ?_
              refine pV 23 (some 57) #[T,T,T,T,T,T,T,T,T,T,T,T,T,T,T,T,T,T,T,T,T,T,T,T,F,F,F,F,F,F] rfl rfl HT_.out ?_
              refine pV 24 (some 58) #[T,T,T,T,T,T,T,T,T,T,T,T,T,T,T,T,T,T,T,T,T,T,T,T,T,F,F,F,F,F] rfl rfl HT_.out ?_
              refine pV 25 (some 59) #[T,T,T,T,T,T,T,T,T,T,T,T,T,T,T,T,T,T,T,T,T,T,T,T,T,T,F,F,F,F] rfl rfl HT_.out ?_
              refine pV 26 (some 60) #[T,T,T,T,T,T,T,T,T,T,T,T,T,T,T,T,T,T,T,T,T,T,T,T,T,T,T,F,F,F] rfl rfl HT_.out ?_
              refine pV 27 (some 61) #[T,T,T,T,T,T,T,T,T,T,T,T,T,T,T,T,T,T,T,T,T,T,T,T,T,T,T,T,F,F] rfl rfl HT_.out ?_
              refine pV 28 (some 62) #[T,T,T,T,T,T,T,T,T,T,T,T,T,T,T,T,T,T,T,T,T,T,T,T,T,T,T,T,T,F] rfl rfl HT_.out ?_
              refine pU 29 (some 63) #[T,T,T,T,T,T,T,T,T,T,T,T,T,T,T,T,T,T,T,T,T,T,T,T,T,T,T,T,T,T] rfl rfl HT_.out ?_
              refine done_ (done_of HT_.out (by kernel_rfl)) ?_
              try go_wp2
              go_meet
              case rel => exact ⟨_, (true), nS, H', ⟨by have := HJ3.out; have := HK2.out; first | omega | exact Nat.le_refl _⟩, ⟨by (with_reducible repeat (first | refine blk_drewN ?_ _ | refine blk_drew ?_ | refine blk_alloc ?_ _)); exact BK124.out⟩, ⟨nH1 HB.out GE124.out⟩⟩
          · replace c19 := Bool.eq_false_iff.mpr c19
            subst c19
            have H1 : (spec_LegsOk.j2 k2 l0 l1 a2 x7_2 true ((rd_T48 l1 x7_2).f0) ((rd_T48 l1 x7_2).f1) ((rd_T48 l1 x7_2).f2)) = some r := by rw [if_neg (show ¬ (false = true) by decide)] at H; exact H
            clear H; have H := H1; clear H1
            have H' := Aside0.mk H
            clear H
            try go_wp2
            have n0_ : Aside0 ((((w16.setCell ⟨gb124, 0, none⟩ (.int .i64 ((rd_T48 l1 x7_2).f0))).setCell ⟨gb124, 1, none⟩ (.int .i64 ((rd_T48 l1 x7_2).f1))).setCell ⟨gb124, 2, none⟩ (.int .i64 ((rd_T48 l1 x7_2).f2))).heap[gb124]? = some (.cells #[.int .i64 ((rd_T48 l1 x7_2).f0), .int .i64 ((rd_T48 l1 x7_2).f1), .int .i64 ((rd_T48 l1 x7_2).f2)] 48 (0, 0))) := ⟨by (with_reducible repeat (first | refine blk_drewN ?_ _ | refine blk_drew ?_ | refine blk_alloc ?_ _)); refine blk_put (cs := #[.int .i64 ((rd_T48 l1 x7_2).f0), .int .i64 ((rd_T48 l1 x7_2).f1), .int .i64 0]) ?_ 2 _ rfl; (with_reducible repeat (first | refine blk_drewN ?_ _ | refine blk_drew ?_ | refine blk_alloc ?_ _)); refine blk_put (cs := #[.int .i64 ((rd_T48 l1 x7_2).f0), .int .i64 0, .int .i64 0]) ?_ 1 _ rfl; (with_reducible repeat (first | refine blk_drewN ?_ _ | refine blk_drew ?_ | refine blk_alloc ?_ _)); refine blk_put (cs := #[.int .i64 0, .int .i64 0, .int .i64 0]) ?_ 0 _ rfl; (with_reducible repeat (first | refine blk_drewN ?_ _ | refine blk_drew ?_ | refine blk_alloc ?_ _)); exact BK124.out⟩
            have n1_ : Aside0 (Below w.heap.size w (((w16.setCell ⟨gb124, 0, none⟩ (.int .i64 ((rd_T48 l1 x7_2).f0))).setCell ⟨gb124, 1, none⟩ (.int .i64 ((rd_T48 l1 x7_2).f1))).setCell ⟨gb124, 2, none⟩ (.int .i64 ((rd_T48 l1 x7_2).f2)))) := ⟨nH1 HB.out GE124.out⟩
            (try clear BK124); (try clear HB)
            generalize (((w16.setCell ⟨gb124, 0, none⟩ (.int .i64 ((rd_T48 l1 x7_2).f0))).setCell ⟨gb124, 1, none⟩ (.int .i64 ((rd_T48 l1 x7_2).f1))).setCell ⟨gb124, 2, none⟩ (.int .i64 ((rd_T48 l1 x7_2).f2))) = w29 at n0_ n1_ ⊢
            have BK124 := n0_; have HB := n1_; clear n0_ n1_
            have n0_ := Aside0.mk (blk_drew BK124.out)
            have n1_ := Aside0.mk (below_drew1 HB.out)
            clear BK124; clear HB; have BK124 := n0_; have HB := n1_; clear n0_ n1_
            refine start_ (n := 30) (S := fun w' => w'.cell? ⟨gb124, 0, none⟩ = some (.int .i64 ((rd_T48 l1 x7_2).f0)) ∧ w'.cell? ⟨gb124, 1, none⟩ = some (.int .i64 ((rd_T48 l1 x7_2).f1)) ∧ w'.cell? ⟨gb124, 2, none⟩ = some (.int .i64 ((rd_T48 l1 x7_2).f2))) (ds := []) #[F,F,F,F,F,F,F,F,F,F,F,F,F,F,F,F,F,F,F,F,F,F,F,F,F,F,F,F,F,F] (by kernel_rfl) rfl rfl ⟨(blk_cell BK124.out 0).trans rfl, (blk_cell BK124.out 1).trans rfl, (blk_cell BK124.out 2).trans rfl⟩ (fun hHeld => ?_); refine with_tabW spec_LegsOk.tab7 spec_LegsOk.bits7 (fun HT_ HW_ => ?_)
            generalize w29.drew = w30 at BK124 HB hHeld ⊢
            refine pU 0 (some 34) #[T,F,F,F,F,F,F,F,F,F,F,F,F,F,F,F,F,F,F,F,F,F,F,F,F,F,F,F,F,F] rfl rfl HT_.out ?_
            refine pU 2 (some 36) #[T,F,T,F,F,F,F,F,F,F,F,F,F,F,F,F,F,F,F,F,F,F,F,F,F,F,F,F,F,F] rfl rfl HT_.out ?_
            refine pU 3 (some 37) #[T,F,T,T,F,F,F,F,F,F,F,F,F,F,F,F,F,F,F,F,F,F,F,F,F,F,F,F,F,F] rfl rfl HT_.out ?_
            refine pU 4 (some 38) #[T,F,T,T,T,F,F,F,F,F,F,F,F,F,F,F,F,F,F,F,F,F,F,F,F,F,F,F,F,F] rfl rfl HT_.out ?_
            refine tU3 1 (some 35) #[T,T,T,T,T,F,F,F,F,F,F,F,F,F,F,F,F,F,F,F,F,F,F,F,F,F,F,F,F,F] rfl rfl HT_.out HW_.out hHeld ?_
            refine one_ (i := 5) (N := some 39) #[T,T,T,T,T,T,F,F,F,F,F,F,F,F,F,F,F,F,F,F,F,F,F,F,F,F,F,F,F,F] rfl rfl (one_of HT_.out (by kernel_rfl)) (by decide) (fun K hK => ?_)
            refine goes_ Tryd.func47 (by kernel_rfl) rfl #[.int .i64 ((rd_T48 l1 x7_2).f0), .int .i64 0, .int .i64 (wrap64 ((l0.length : Int) - 1))] (by rfl) rfl rfl (by (try simp only [List.map_toArray, List.map_cons, List.map_nil]); first | done | rfl | (simp only [List.length_drop, List.length_take]; rfl)) ?_
            with_reducible refine (spec_l01In.calls ((rd_T48 l1 x7_2).f0) 0 (wrap64 ((l0.length : Int) - 1)) false _ A18.out).mono ?_
            rintro e w' ⟨rfl, ⟨nd, rfl⟩⟩
            refine ⟨_, rfl, ?_⟩
            refine hK.out _ _ ⟨(blk_cell BK124.out 0).trans rfl, (blk_cell BK124.out 1).trans rfl, (blk_cell BK124.out 2).trans rfl⟩ (fun hHeld => ?_)
            clear hK K
            refine norm_ (a' := ?_) ?_ ?_
            rotate_left
            · show Act.put _ (some 39) _ = _
              simp only [Act.put, List.setIfInBounds_toArray, List.set_cons_zero, List.set_cons_succ, i64_w, i32_w]
              rfl
            refine pU 6 (some 40) #[T,T,T,T,T,T,T,F,F,F,F,F,F,F,F,F,F,F,F,F,F,F,F,F,F,F,F,F,F,F] rfl rfl HT_.out ?_
            refine pU 7 (some 41) #[T,T,T,T,T,T,T,T,F,F,F,F,F,F,F,F,F,F,F,F,F,F,F,F,F,F,F,F,F,F] rfl rfl HT_.out ?_
            refine pV 8 (some 42) #[T,T,T,T,T,T,T,T,T,F,F,F,F,F,F,F,F,F,F,F,F,F,F,F,F,F,F,F,F,F] rfl rfl HT_.out ?_
            refine pV 9 (some 43) #[T,T,T,T,T,T,T,T,T,T,F,F,F,F,F,F,F,F,F,F,F,F,F,F,F,F,F,F,F,F] rfl rfl HT_.out ?_
            refine pV 10 (some 44) #[T,T,T,T,T,T,T,T,T,T,T,F,F,F,F,F,F,F,F,F,F,F,F,F,F,F,F,F,F,F] rfl rfl HT_.out ?_
            refine pV 11 (some 45) #[T,T,T,T,T,T,T,T,T,T,T,T,F,F,F,F,F,F,F,F,F,F,F,F,F,F,F,F,F,F] rfl rfl HT_.out ?_
            refine pV 12 (some 46) #[T,T,T,T,T,T,T,T,T,T,T,T,T,F,F,F,F,F,F,F,F,F,F,F,F,F,F,F,F,F] rfl rfl HT_.out ?_
            refine pV 13 (some 47) #[T,T,T,T,T,T,T,T,T,T,T,T,T,T,F,F,F,F,F,F,F,F,F,F,F,F,F,F,F,F] rfl rfl HT_.out ?_
            refine pV 14 (some 48) #[T,T,T,T,T,T,T,T,T,T,T,T,T,T,T,F,F,F,F,F,F,F,F,F,F,F,F,F,F,F] rfl rfl HT_.out ?_
            refine pV 15 (some 49) #[T,T,T,T,T,T,T,T,T,T,T,T,T,T,T,T,F,F,F,F,F,F,F,F,F,F,F,F,F,F] rfl rfl HT_.out ?_
            refine pV 16 (some 50) #[T,T,T,T,T,T,T,T,T,T,T,T,T,T,T,T,T,F,F,F,F,F,F,F,F,F,F,F,F,F] rfl rfl HT_.out ?_
            refine pV 17 (some 51) #[T,T,T,T,T,T,T,T,T,T,T,T,T,T,T,T,T,T,F,F,F,F,F,F,F,F,F,F,F,F] rfl rfl HT_.out ?_
            refine pV 18 (some 52) #[T,T,T,T,T,T,T,T,T,T,T,T,T,T,T,T,T,T,T,F,F,F,F,F,F,F,F,F,F,F] rfl rfl HT_.out ?_
            refine pV 19 (some 53) #[T,T,T,T,T,T,T,T,T,T,T,T,T,T,T,T,T,T,T,T,F,F,F,F,F,F,F,F,F,F] rfl rfl HT_.out ?_
            refine pU 20 (some 54) #[T,T,T,T,T,T,T,T,T,T,T,T,T,T,T,T,T,T,T,T,T,F,F,F,F,F,F,F,F,F] rfl rfl HT_.out ?_
            refine pU 21 (some 55) #[T,T,T,T,T,T,T,T,T,T,T,T,T,T,T,T,T,T,T,T,T,T,F,F,F,F,F,F,F,F] rfl rfl HT_.out ?_
            refine pV 22 (some 56) #[T,T,T,T,T,T,T,T,T,T,T,T,T,T,T,T,T,T,T,T,T,T,T,F,F,F,F,F,F,F] rfl rfl HT_.out ?_
            refine pV 23 (some 57) #[T,T,T,T,T,T,T,T,T,T,T,T,T,T,T,T,T,T,T,T,T,T,T,T,F,F,F,F,F,F] rfl rfl HT_.out ?_
            refine pV 24 (some 58) #[T,T,T,T,T,T,T,T,T,T,T,T,T,T,T,T,T,T,T,T,T,T,T,T,T,F,F,F,F,F] rfl rfl HT_.out ?_
            refine pV 25 (some 59) #[T,T,T,T,T,T,T,T,T,T,T,T,T,T,T,T,T,T,T,T,T,T,T,T,T,T,F,F,F,F] rfl rfl HT_.out ?_
            refine pV 26 (some 60) #[T,T,T,T,T,T,T,T,T,T,T,T,T,T,T,T,T,T,T,T,T,T,T,T,T,T,T,F,F,F] rfl rfl HT_.out ?_
            refine pV 27 (some 61) #[T,T,T,T,T,T,T,T,T,T,T,T,T,T,T,T,T,T,T,T,T,T,T,T,T,T,T,T,F,F] rfl rfl HT_.out ?_
            refine pV 28 (some 62) #[T,T,T,T,T,T,T,T,T,T,T,T,T,T,T,T,T,T,T,T,T,T,T,T,T,T,T,T,T,F] rfl rfl HT_.out ?_
            refine pU 29 (some 63) #[T,T,T,T,T,T,T,T,T,T,T,T,T,T,T,T,T,T,T,T,T,T,T,T,T,T,T,T,T,T] rfl rfl HT_.out ?_
            refine done_ (done_of HT_.out (by kernel_rfl)) ?_
            try go_wp2
            go_meet
            case rel => exact ⟨_, (true), nS, H', ⟨by have := HJ3.out; have := HK2.out; first | omega | exact Nat.le_refl _⟩, ⟨by (with_reducible repeat (first | refine blk_drewN ?_ _ | refine blk_drew ?_ | refine blk_alloc ?_ _)); exact BK124.out⟩, ⟨nH1 HB.out GE124.out⟩⟩
         case rest =>
          clear HC15; try clear c1; try clear p1; try clear q1; try clear hx1; try clear c2; try clear p2; try clear c4; try clear p6; try clear c12; try clear p12; try clear q12; try clear hx12; try clear c19; try clear c20; try clear c21; try clear c23; try clear hx126_0; try clear hx126_1; try clear p126; try clear q126
          obtain ⟨kq, x63_14, rfl, HA, HJ14, BK124, HB⟩ := hcut
          cases kq with
          | zero => exact absurd HA.out (by simp [spec_LegsOk.j2])
          | succ kj14 =>
           have H := HA.out; clear HA
           simp only [spec_LegsOk.j2] at H
           by_cases c31 : x63_14 = true
           · subst c31
             have H1 : (some false) = some r := by rw [if_pos rfl] at H; exact H
             clear H; have H := H1; clear H1; obtain rfl := Option.some.inj H; go_wp2; go_ret
             exact ⟨by first | rfl | (simp [errW_none, errW_some] <;> rfl) | (simp [*, errW_none, errW_some] <;> first | rfl | (simp [wrap64]; done)), nH1 HB.out GE124.out⟩
           · replace c31 := Bool.eq_false_iff.mpr c31
             subst c31
             have H1 : (if x7_2 > 0 then (if 0 ≤ (wrap64 (x7_2 - 1)) then (if (wrap64 (x7_2 - 1)) < (l1.length : Int) then (if 0 ≤ ((rd_T48 l1 (wrap64 (x7_2 - 1))).f0) then (if ((rd_T48 l1 (wrap64 (x7_2 - 1))).f0) < (l0.length : Int) then (if 0 ≤ ((rd_T48 l1 (wrap64 (x7_2 - 1))).f2) then (if ((rd_T48 l1 (wrap64 (x7_2 - 1))).f2) < (((rd_T46 l0 ((rd_T48 l1 (wrap64 (x7_2 - 1))).f0)).f1).length : Int) then (if 0 ≤ ((rd_T48 l1 x7_2).f0) then (if ((rd_T48 l1 x7_2).f0) < (l0.length : Int) then (if 0 ≤ ((rd_T48 l1 x7_2).f1) then (if ((rd_T48 l1 x7_2).f1) < (((rd_T46 l0 ((rd_T48 l1 x7_2).f0)).f1).length : Int) then (if ((rd_T43 ((rd_T46 l0 ((rd_T48 l1 (wrap64 (x7_2 - 1))).f0)).f1) ((rd_T48 l1 (wrap64 (x7_2 - 1))).f2)).f0) = ((rd_T43 ((rd_T46 l0 ((rd_T48 l1 x7_2).f0)).f1) ((rd_T48 l1 x7_2).f1)).f0) then (if ((rd_T43 ((rd_T46 l0 ((rd_T48 l1 x7_2).f0)).f1) ((rd_T48 l1 x7_2).f1)).f2) < (wrap64 (((rd_T43 ((rd_T46 l0 ((rd_T48 l1 (wrap64 (x7_2 - 1))).f0)).f1) ((rd_T48 l1 (wrap64 (x7_2 - 1))).f2)).f1) + a2)) then (some false) else (spec_LegsOk.l0 kj14 l0 l1 a2 (wrap64 (x7_2 + 1)))) else (some false)) else (none)) else (none)) else (none)) else (none)) else (none)) else (none)) else (none)) else (none)) else (none)) else (none)) else (spec_LegsOk.l0 kj14 l0 l1 a2 (wrap64 (x7_2 + 1)))) = some r := by rw [if_neg (show ¬ (false = true) by decide)] at H; exact H
             clear H; have H := H1; clear H1
             by_cases c32 : x7_2 > 0
             · rw [if_pos c32] at H
               have c32b0 : decide (0 < x7_2) = true := decide_eq_true c32
               clear c32
               obtain ⟨ji33, hji33⟩ : ∃ j_ : Int, (wrap64 (x7_2 - 1)) = j_ := ⟨_, rfl⟩
               replace H : (if 0 ≤ (ji33) then (if (ji33) < (l1.length : Int) then (if 0 ≤ ((rd_T48 l1 (ji33)).f0) then (if ((rd_T48 l1 (ji33)).f0) < (l0.length : Int) then (if 0 ≤ ((rd_T48 l1 (ji33)).f2) then (if ((rd_T48 l1 (ji33)).f2) < (((rd_T46 l0 ((rd_T48 l1 (ji33)).f0)).f1).length : Int) then (if 0 ≤ ((rd_T48 l1 x7_2).f0) then (if ((rd_T48 l1 x7_2).f0) < (l0.length : Int) then (if 0 ≤ ((rd_T48 l1 x7_2).f1) then (if ((rd_T48 l1 x7_2).f1) < (((rd_T46 l0 ((rd_T48 l1 x7_2).f0)).f1).length : Int) then (if ((rd_T43 ((rd_T46 l0 ((rd_T48 l1 (ji33)).f0)).f1) ((rd_T48 l1 (ji33)).f2)).f0) = ((rd_T43 ((rd_T46 l0 ((rd_T48 l1 x7_2).f0)).f1) ((rd_T48 l1 x7_2).f1)).f0) then (if ((rd_T43 ((rd_T46 l0 ((rd_T48 l1 x7_2).f0)).f1) ((rd_T48 l1 x7_2).f1)).f2) < (wrap64 (((rd_T43 ((rd_T46 l0 ((rd_T48 l1 (ji33)).f0)).f1) ((rd_T48 l1 (ji33)).f2)).f1) + a2)) then (some false) else (spec_LegsOk.l0 kj14 l0 l1 a2 (wrap64 (x7_2 + 1)))) else (some false)) else (none)) else (none)) else (none)) else (none)) else (none)) else (none)) else (none)) else (none)) else (none)) else (none)) = some r := by first | (rw [hji33] at H; exact H) | (simp only [hji33] at H ⊢; exact H)
               have hji33w : (IntKind.i64.wrap (x7_2 - 1)) = ji33 := (i64_w _).trans hji33
               by_cases c34 : 0 ≤ (ji33)
               rotate_left
               · (rw [if_neg c34] at H; exact absurd H (by simp))
               rw [if_pos c34] at H
               have c34b0 : decide (0 ≤ (ji33)) = true := decide_eq_true c34
               clear c34
               by_cases c35 : (ji33) < (l1.length : Int)
               rotate_left
               · (rw [if_neg c35] at H; exact absurd H (by simp))
               rw [if_pos c35] at H
               have c35b0 : decide ((ji33) < (l1.length : Int)) = true := decide_eq_true c35
               clear c35
               by_cases c36 : 0 ≤ ((rd_T48 l1 (ji33)).f0)
               rotate_left
               · (rw [if_neg c36] at H; exact absurd H (by simp))
               rw [if_pos c36] at H
               have c36b0 : decide (0 ≤ ((rd_T48 l1 (ji33)).f0)) = true := decide_eq_true c36
               clear c36
               by_cases c37 : ((rd_T48 l1 (ji33)).f0) < (l0.length : Int)
               rotate_left
               · (rw [if_neg c37] at H; exact absurd H (by simp))
               rw [if_pos c37] at H
               have c37b0 : decide (((rd_T48 l1 (ji33)).f0) < (l0.length : Int)) = true := decide_eq_true c37
               clear c37
               by_cases c38 : 0 ≤ ((rd_T48 l1 (ji33)).f2)
               rotate_left
               · (rw [if_neg c38] at H; exact absurd H (by simp))
               rw [if_pos c38] at H
               have c38b0 : decide (0 ≤ ((rd_T48 l1 (ji33)).f2)) = true := decide_eq_true c38
               clear c38
               by_cases c39 : ((rd_T48 l1 (ji33)).f2) < (((rd_T46 l0 ((rd_T48 l1 (ji33)).f0)).f1).length : Int)
               rotate_left
               · (rw [if_neg c39] at H; exact absurd H (by simp))
               rw [if_pos c39] at H
               have c39b0 : decide (((rd_T48 l1 (ji33)).f2) < (((rd_T46 l0 ((rd_T48 l1 (ji33)).f0)).f1).length : Int)) = true := decide_eq_true c39
               clear c39
               by_cases c40 : 0 ≤ ((rd_T48 l1 x7_2).f0)
               rotate_left
               · (rw [if_neg c40] at H; exact absurd H (by simp))
               rw [if_pos c40] at H
               have c40b0 : decide (0 ≤ ((rd_T48 l1 x7_2).f0)) = true := decide_eq_true c40
               clear c40
               by_cases c41 : ((rd_T48 l1 x7_2).f0) < (l0.length : Int)
               rotate_left
               · (rw [if_neg c41] at H; exact absurd H (by simp))
               rw [if_pos c41] at H
               have c41b0 : decide (((rd_T48 l1 x7_2).f0) < (l0.length : Int)) = true := decide_eq_true c41
               clear c41
               by_cases c42 : 0 ≤ ((rd_T48 l1 x7_2).f1)
               rotate_left
               · (rw [if_neg c42] at H; exact absurd H (by simp))
               rw [if_pos c42] at H
               have c42b0 : decide (0 ≤ ((rd_T48 l1 x7_2).f1)) = true := decide_eq_true c42
               clear c42
               by_cases c43 : ((rd_T48 l1 x7_2).f1) < (((rd_T46 l0 ((rd_T48 l1 x7_2).f0)).f1).length : Int)
               rotate_left
               · (rw [if_neg c43] at H; exact absurd H (by simp))
               rw [if_pos c43] at H
               have c43b0 : decide (((rd_T48 l1 x7_2).f1) < (((rd_T46 l0 ((rd_T48 l1 x7_2).f0)).f1).length : Int)) = true := decide_eq_true c43
               clear c43
               by_cases c44 : ((rd_T43 ((rd_T46 l0 ((rd_T48 l1 (ji33)).f0)).f1) ((rd_T48 l1 (ji33)).f2)).f0) = ((rd_T43 ((rd_T46 l0 ((rd_T48 l1 x7_2).f0)).f1) ((rd_T48 l1 x7_2).f1)).f0)
               · rw [if_pos c44] at H
                 have c44b0 : (((rd_T43 ((rd_T46 l0 ((rd_T48 l1 (ji33)).f0)).f1) ((rd_T48 l1 (ji33)).f2)).f0) == ((rd_T43 ((rd_T46 l0 ((rd_T48 l1 x7_2).f0)).f1) ((rd_T48 l1 x7_2).f1)).f0)) = true := beq_iff_eq.mpr c44
                 have c44b1 : (((rd_T43 ((rd_T46 l0 ((rd_T48 l1 (ji33)).f0)).f1) ((rd_T48 l1 (ji33)).f2)).f0) != ((rd_T43 ((rd_T46 l0 ((rd_T48 l1 x7_2).f0)).f1) ((rd_T48 l1 x7_2).f1)).f0)) = false := bne_eq_false_iff_eq.mpr c44
                 clear c44
                 by_cases c45 : ((rd_T43 ((rd_T46 l0 ((rd_T48 l1 x7_2).f0)).f1) ((rd_T48 l1 x7_2).f1)).f2) < (wrap64 (((rd_T43 ((rd_T46 l0 ((rd_T48 l1 (ji33)).f0)).f1) ((rd_T48 l1 (ji33)).f2)).f1) + a2))
                 · rw [if_pos c45] at H
                   have c45b0 : decide (((rd_T43 ((rd_T46 l0 ((rd_T48 l1 x7_2).f0)).f1) ((rd_T48 l1 x7_2).f1)).f2) < (wrap64 (((rd_T43 ((rd_T46 l0 ((rd_T48 l1 (ji33)).f0)).f1) ((rd_T48 l1 (ji33)).f2)).f1) + a2))) = true := decide_eq_true c45
                   clear c45; obtain rfl := Option.some.inj H
                   try go_wp2
                   have n0_ := Aside0.mk (blk_drew BK124.out)
                   have n1_ := Aside0.mk (below_drew1 HB.out)
                   clear BK124; clear HB; have BK124 := n0_; have HB := n1_; clear n0_ n1_
                   have p129 : 0 ≤ ((ji33) : Int) := of_decide_eq_true nQ
                   have q129 : (ji33) < (l1.length : Int) := of_decide_eq_true nQ
                   obtain ⟨ad129, e129, hx129_0, hx129_1, hx129_2⟩ := at_T48 HR1.out (ji33) p129 q129
                   have hw129_2 := hx129_2; have hw129_1 := hx129_1; have hw129_0 := hx129_0
                   obtain rfl : ad123 = ad129 := (by injection e129)
                   replace hx129_0 := (HB.out.cell (World.block_lt_of_cell? w _ hx129_0)).trans hx129_0
                   replace hx129_1 := (HB.out.cell (World.block_lt_of_cell? w _ hx129_1)).trans hx129_1
                   replace hx129_2 := (HB.out.cell (World.block_lt_of_cell? w _ hx129_2)).trans hx129_2
                   replace p129 := eq_true p129; replace q129 := eq_true q129
                   have p130 : 0 ≤ (((rd_T48 l1 (ji33)).f0) : Int) := of_decide_eq_true nQ
                   have q130 : ((rd_T48 l1 (ji33)).f0) < (l0.length : Int) := of_decide_eq_true nQ
                   obtain ⟨ad130, A130_1, c130_1, e130, hx130_0, hx130_1, hl130_1, hi130_1⟩ := at_T46 HR0.out ((rd_T48 l1 (ji33)).f0) p130 q130
                   have hw130_1 := hx130_1; have hw130_0 := hx130_0; cases e130
                   replace hx130_0 := (HB.out.cell (World.block_lt_of_cell? w _ hx130_0)).trans hx130_0
                   replace hx130_1 := (HB.out.cell (World.block_lt_of_cell? w _ hx130_1)).trans hx130_1
                   have HR130_1 := Aside0.mk hi130_1
                   have HC130_1 := Aside0.mk hl130_1
                   clear hi130_1 hl130_1; replace p130 := eq_true p130; replace q130 := eq_true q130
                   have p131 : 0 ≤ ((ji33) : Int) := of_decide_eq_true nQ
                   have q131 : (ji33) < (l1.length : Int) := of_decide_eq_true nQ
                   obtain ⟨ad131, e131, hx131_0, hx131_1, hx131_2⟩ := at_T48 HR1.out (ji33) p131 q131
                   have hw131_2 := hx131_2; have hw131_1 := hx131_1; have hw131_0 := hx131_0
                   obtain rfl : ad123 = ad131 := (by injection e131)
                   replace hx131_0 := (HB.out.cell (World.block_lt_of_cell? w _ hx131_0)).trans hx131_0
                   replace hx131_1 := (HB.out.cell (World.block_lt_of_cell? w _ hx131_1)).trans hx131_1
                   replace hx131_2 := (HB.out.cell (World.block_lt_of_cell? w _ hx131_2)).trans hx131_2
                   replace p131 := eq_true p131; replace q131 := eq_true q131
                   have p132 : 0 ≤ (((rd_T48 l1 (ji33)).f2) : Int) := of_decide_eq_true nQ
                   have q132 : ((rd_T48 l1 (ji33)).f2) < (((rd_T46 l0 ((rd_T48 l1 (ji33)).f0)).f1).length : Int) := of_decide_eq_true nQ
                   obtain ⟨ad132, e132, hx132_0, hx132_1, hx132_2⟩ := at_T43 HR130_1.out ((rd_T48 l1 (ji33)).f2) p132 q132
                   have hw132_2 := hx132_2; have hw132_1 := hx132_1; have hw132_0 := hx132_0; cases e132
                   replace hx132_0 := (HB.out.cell (World.block_lt_of_cell? w _ hx132_0)).trans hx132_0
                   replace hx132_1 := (HB.out.cell (World.block_lt_of_cell? w _ hx132_1)).trans hx132_1
                   replace hx132_2 := (HB.out.cell (World.block_lt_of_cell? w _ hx132_2)).trans hx132_2
                   replace p132 := eq_true p132; replace q132 := eq_true q132
                   refine start_ (n := 20) (S := fun w' => w'.cell? (ad123.add (((ji33)).toNat * 3)) = some (.int .i64 ((rd_T48 l1 (ji33)).f0)) ∧ w'.cell? ⟨(ad123.add (((ji33)).toNat * 3)).block, (ad123.add (((ji33)).toNat * 3)).off + 1, none⟩ = some (.int .i64 ((rd_T48 l1 (ji33)).f1)) ∧ w'.cell? ⟨(ad123.add (((ji33)).toNat * 3)).block, (ad123.add (((ji33)).toNat * 3)).off + 2, none⟩ = some (.int .i64 ((rd_T48 l1 (ji33)).f2)) ∧ w'.cell? (ad130.add ((((rd_T48 l1 (ji33)).f0)).toNat * 2)) = some (.string ((rd_T46 l0 ((rd_T48 l1 (ji33)).f0)).f0)) ∧ w'.cell? ⟨(ad130.add ((((rd_T48 l1 (ji33)).f0)).toNat * 2)).block, (ad130.add ((((rd_T48 l1 (ji33)).f0)).toNat * 2)).off + 1, none⟩ = some (.slice (some ad132) ((rd_T46 l0 ((rd_T48 l1 (ji33)).f0)).f1).length c130_1) ∧ w'.cell? (ad123.add (((ji33)).toNat * 3)) = some (.int .i64 ((rd_T48 l1 (ji33)).f0)) ∧ w'.cell? ⟨(ad123.add (((ji33)).toNat * 3)).block, (ad123.add (((ji33)).toNat * 3)).off + 1, none⟩ = some (.int .i64 ((rd_T48 l1 (ji33)).f1)) ∧ w'.cell? ⟨(ad123.add (((ji33)).toNat * 3)).block, (ad123.add (((ji33)).toNat * 3)).off + 2, none⟩ = some (.int .i64 ((rd_T48 l1 (ji33)).f2)) ∧ w'.cell? (ad132.add ((((rd_T48 l1 (ji33)).f2)).toNat * 3)) = some (.int .i64 ((rd_T43 ((rd_T46 l0 ((rd_T48 l1 (ji33)).f0)).f1) ((rd_T48 l1 (ji33)).f2)).f0)) ∧ w'.cell? ⟨(ad132.add ((((rd_T48 l1 (ji33)).f2)).toNat * 3)).block, (ad132.add ((((rd_T48 l1 (ji33)).f2)).toNat * 3)).off + 1, none⟩ = some (.int .i64 ((rd_T43 ((rd_T46 l0 ((rd_T48 l1 (ji33)).f0)).f1) ((rd_T48 l1 (ji33)).f2)).f1)) ∧ w'.cell? ⟨(ad132.add ((((rd_T48 l1 (ji33)).f2)).toNat * 3)).block, (ad132.add ((((rd_T48 l1 (ji33)).f2)).toNat * 3)).off + 2, none⟩ = some (.int .i64 ((rd_T43 ((rd_T46 l0 ((rd_T48 l1 (ji33)).f0)).f1) ((rd_T48 l1 (ji33)).f2)).f2))) (ds := []) #[F,F,F,F,F,F,F,F,F,F,F,F,F,F,F,F,F,F,F,F] (by kernel_rfl) rfl rfl ⟨(nC HB.out hw129_0 :), (nC HB.out hw129_1 :), (nC HB.out hw129_2 :), (nC HB.out hw130_0 :), (nC HB.out hw130_1 :), (nC HB.out hw131_0 :), (nC HB.out hw131_1 :), (nC HB.out hw131_2 :), (nC HB.out hw132_0 :), (nC HB.out hw132_1 :), (nC HB.out hw132_2 :)⟩ (fun hHeld => ?_); refine with_tabW spec_LegsOk.tab10 spec_LegsOk.bits10 (fun HT_ HW_ => ?_)
                   generalize wc.drew = w46 at BK124 HB HR130_1 hx129_0 hx129_1 hx129_2 hx130_0 hx130_1 hx131_0 hx131_1 hx131_2 hx132_0 hx132_1 hx132_2 hHeld ⊢
                   refine pU 0 (some 66) #[T,F,F,F,F,F,F,F,F,F,F,F,F,F,F,F,F,F,F,F] rfl rfl HT_.out ?_
                   refine pU 1 (some 67) #[T,T,F,F,F,F,F,F,F,F,F,F,F,F,F,F,F,F,F,F] rfl rfl HT_.out ?_
                   refine pU 2 (some 68) #[T,T,T,F,F,F,F,F,F,F,F,F,F,F,F,F,F,F,F,F] rfl rfl HT_.out ?_
                   refine pU 3 (some 69) #[T,T,T,T,F,F,F,F,F,F,F,F,F,F,F,F,F,F,F,F] rfl rfl HT_.out ?_
                   refine pU 4 (some 70) #[T,T,T,T,T,F,F,F,F,F,F,F,F,F,F,F,F,F,F,F] rfl rfl HT_.out ?_
                   refine pU 5 (some 71) #[T,T,T,T,T,T,F,F,F,F,F,F,F,F,F,F,F,F,F,F] rfl rfl HT_.out ?_
                   refine pU 10 (some 76) #[T,T,T,T,T,T,F,F,F,F,T,F,F,F,F,F,F,F,F,F] rfl rfl HT_.out ?_
                   refine pU 11 (some 77) #[T,T,T,T,T,T,F,F,F,F,T,T,F,F,F,F,F,F,F,F] rfl rfl HT_.out ?_
                   refine pU 12 (some 78) #[T,T,T,T,T,T,F,F,F,F,T,T,T,F,F,F,F,F,F,F] rfl rfl HT_.out ?_
                   refine pU 13 (some 79) #[T,T,T,T,T,T,F,F,F,F,T,T,T,T,F,F,F,F,F,F] rfl rfl HT_.out ?_
                   refine pU 14 (some 80) #[T,T,T,T,T,T,F,F,F,F,T,T,T,T,T,F,F,F,F,F] rfl rfl HT_.out ?_
                   refine tU11 6 (some 72) #[T,T,T,T,T,T,T,F,F,F,T,T,T,T,T,F,F,F,F,F] rfl rfl HT_.out HW_.out hHeld ?_
                   refine pU 7 (some 73) #[T,T,T,T,T,T,T,T,F,F,T,T,T,T,T,F,F,F,F,F] rfl rfl HT_.out ?_
                   refine pU 8 (some 74) #[T,T,T,T,T,T,T,T,T,F,T,T,T,T,T,F,F,F,F,F] rfl rfl HT_.out ?_
                   refine tU11 9 (some 75) #[T,T,T,T,T,T,T,T,T,T,T,T,T,T,T,F,F,F,F,F] rfl rfl HT_.out HW_.out hHeld ?_
                   refine tU11 15 (some 81) #[T,T,T,T,T,T,T,T,T,T,T,T,T,T,T,T,F,F,F,F] rfl rfl HT_.out HW_.out hHeld ?_
                   refine pU 16 (some 82) #[T,T,T,T,T,T,T,T,T,T,T,T,T,T,T,T,T,F,F,F] rfl rfl HT_.out ?_
                   refine tU11 17 (some 83) #[T,T,T,T,T,T,T,T,T,T,T,T,T,T,T,T,T,T,F,F] rfl rfl HT_.out HW_.out hHeld ?_
                   refine one_ (i := 18) (N := some 9) #[T,T,T,T,T,T,T,T,T,T,T,T,T,T,T,T,T,T,T,F] rfl rfl (one_of HT_.out (by kernel_rfl)) (by decide) (fun K hK => ?_)
                   refine box_step ?hg (N := 9) ?hd (cs := #[.int .i64 0, .int .i64 0, .int .i64 0]) (t := 43) ?hr ?_; (case hd => rfl); (case hg => rfl); (case hr => first | (go_simp; done) | (go_simp; rfl))
                   intro gb133 hg w47 hbox hb
                   have n0_ := Aside0.mk (blk_below (g := gb124) (o := .cells #[.int .i64 ((rd_T48 l1 x7_2).f0), .int .i64 ((rd_T48 l1 x7_2).f1), .int .i64 ((rd_T48 l1 x7_2).f2)] 48 (0, 0)) (nB BK124.out) hb)
                   have n1_ := Aside0.mk (below_step (nH1 HB.out GE124.out) hb)
                   have n2_ := Aside0.mk (hbox)
                   have n3_ := Aside0.mk ((by rw [hg]; exact (below_size (nH1 HB.out GE124.out)) : w.heap.size ≤ gb133))
                   have n4_ := Aside0.mk ((by rw [hg]; exact (below_size (nH1 HB.out GE124.out)) : w.heap.size ≤ gb133))
                   have n5_ := Aside0.mk ((by rw [hg]; exact Nat.ne_of_lt (blk_lt (g := gb124) (o := .cells #[.int .i64 ((rd_T48 l1 x7_2).f0), .int .i64 ((rd_T48 l1 x7_2).f1), .int .i64 ((rd_T48 l1 x7_2).f2)] 48 (0, 0)) (nB BK124.out)) : gb124 ≠ gb133))
                   have n6_ := Aside0.mk ((by rw [hg]; exact Nat.ne_of_gt (blk_lt (g := gb124) (o := .cells #[.int .i64 ((rd_T48 l1 x7_2).f0), .int .i64 ((rd_T48 l1 x7_2).f1), .int .i64 ((rd_T48 l1 x7_2).f2)] 48 (0, 0)) (nB BK124.out)) : gb133 ≠ gb124))
                   clear BK124; clear HB; have BK124 := n0_; have HB := n1_; have BK133 := n2_; have GW133 := n3_; have GE133 := n4_; have NB124_133 := n5_; have NB133_124 := n6_; clear n0_ n1_ n2_ n3_ n4_ n5_ n6_; clear hb hbox hg
                   refine hK.out _ _ ⟨(nC HB.out hw129_0 :), (nC HB.out hw129_1 :), (nC HB.out hw129_2 :), (nC HB.out hw130_0 :), (nC HB.out hw130_1 :), (nC HB.out hw131_0 :), (nC HB.out hw131_1 :), (nC HB.out hw131_2 :), (nC HB.out hw132_0 :), (nC HB.out hw132_1 :), (nC HB.out hw132_2 :)⟩ (fun hHeld => ?_)
                   clear hK K
                   refine norm_ (a' := ?_) ?_ ?_
                   rotate_left
                   · show Act.put _ (some 9) _ = _
                     simp only [Act.put, List.setIfInBounds_toArray, List.set_cons_zero, List.set_cons_succ, i64_w, i32_w]
                     rfl
                   refine one_ (i := 19) (N := none) #[T,T,T,T,T,T,T,T,T,T,T,T,T,T,T,T,T,T,T,T] rfl rfl (one_of HT_.out (by kernel_rfl)) (by decide) (fun K hK => ?_)
                   have hs48 : w47.cell? ⟨gb133, 0, none⟩ = some (.int .i64 0) := (blk_cell BK133.out 0).trans rfl
                   have hfs48 := blk_frozen BK133.out 0
                   have hns48_0 := NB124_133.out; have hms48_0 := NB133_124.out
                   have hs49 : w47.cell? ⟨gb133, 1, none⟩ = some (.int .i64 0) := (blk_cell BK133.out 1).trans rfl
                   have hfs49 := blk_frozen BK133.out 1
                   have hns49_0 := NB124_133.out; have hms49_0 := NB133_124.out
                   have hs50 : w47.cell? ⟨gb133, 2, none⟩ = some (.int .i64 0) := (blk_cell BK133.out 2).trans rfl
                   have hfs50 := blk_frozen BK133.out 2
                   have hns50_0 := NB124_133.out; have hms50_0 := NB133_124.out
                   refine skip_ (w1 := ?_) (by rfl) rfl ?_ ?_
                   rotate_left
                   · go_simp; rfl
                   refine hK.out _ _ ⟨((nF gb133 hw129_0 GW133.out).trans (((nF gb133 hw129_0 GW133.out).trans (((nF gb133 hw129_0 GW133.out).trans (hHeld.1)))))), ((nF gb133 hw129_1 GW133.out).trans (((nF gb133 hw129_1 GW133.out).trans (((nF gb133 hw129_1 GW133.out).trans (hHeld.2.1)))))), ((nF gb133 hw129_2 GW133.out).trans (((nF gb133 hw129_2 GW133.out).trans (((nF gb133 hw129_2 GW133.out).trans (hHeld.2.2.1)))))), ((nF gb133 hw130_0 GW133.out).trans (((nF gb133 hw130_0 GW133.out).trans (((nF gb133 hw130_0 GW133.out).trans (hHeld.2.2.2.1)))))), ((nF gb133 hw130_1 GW133.out).trans (((nF gb133 hw130_1 GW133.out).trans (((nF gb133 hw130_1 GW133.out).trans (hHeld.2.2.2.2.1)))))), ((nF gb133 hw131_0 GW133.out).trans (((nF gb133 hw131_0 GW133.out).trans (((nF gb133 hw131_0 GW133.out).trans (hHeld.2.2.2.2.2.1)))))), ((nF gb133 hw131_1 GW133.out).trans (((nF gb133 hw131_1 GW133.out).trans (((nF gb133 hw131_1 GW133.out).trans (hHeld.2.2.2.2.2.2.1)))))), ((nF gb133 hw131_2 GW133.out).trans (((nF gb133 hw131_2 GW133.out).trans (((nF gb133 hw131_2 GW133.out).trans (hHeld.2.2.2.2.2.2.2.1)))))), ((nF gb133 hw132_0 GW133.out).trans (((nF gb133 hw132_0 GW133.out).trans (((nF gb133 hw132_0 GW133.out).trans (hHeld.2.2.2.2.2.2.2.2.1)))))), ((nF gb133 hw132_1 GW133.out).trans (((nF gb133 hw132_1 GW133.out).trans (((nF gb133 hw132_1 GW133.out).trans (hHeld.2.2.2.2.2.2.2.2.2.1)))))), ((nF gb133 hw132_2 GW133.out).trans (((nF gb133 hw132_2 GW133.out).trans (((nF gb133 hw132_2 GW133.out).trans (hHeld.2.2.2.2.2.2.2.2.2.2))))))⟩ (fun hHeld => ?_)
                   clear hK K
                   refine done_ (done_of HT_.out (by kernel_rfl)) ?_
                   try go_wp2
                   have n0_ : Aside0 ((((w47.setCell ⟨gb133, 0, none⟩ (.int .i64 ((rd_T43 ((rd_T46 l0 ((rd_T48 l1 (ji33)).f0)).f1) ((rd_T48 l1 (ji33)).f2)).f0))).setCell ⟨gb133, 1, none⟩ (.int .i64 ((rd_T43 ((rd_T46 l0 ((rd_T48 l1 (ji33)).f0)).f1) ((rd_T48 l1 (ji33)).f2)).f1))).setCell ⟨gb133, 2, none⟩ (.int .i64 ((rd_T43 ((rd_T46 l0 ((rd_T48 l1 (ji33)).f0)).f1) ((rd_T48 l1 (ji33)).f2)).f2))).heap[gb124]? = some (.cells #[.int .i64 ((rd_T48 l1 x7_2).f0), .int .i64 ((rd_T48 l1 x7_2).f1), .int .i64 ((rd_T48 l1 x7_2).f2)] 48 (0, 0))) := ⟨by (with_reducible repeat (first | refine blk_drewN ?_ _ | refine blk_drew ?_ | refine blk_alloc ?_ _)); refine blk_far ?_ NB124_133.out _; (with_reducible repeat (first | refine blk_drewN ?_ _ | refine blk_drew ?_ | refine blk_alloc ?_ _)); refine blk_far ?_ NB124_133.out _; (with_reducible repeat (first | refine blk_drewN ?_ _ | refine blk_drew ?_ | refine blk_alloc ?_ _)); refine blk_far ?_ NB124_133.out _; (with_reducible repeat (first | refine blk_drewN ?_ _ | refine blk_drew ?_ | refine blk_alloc ?_ _)); exact BK124.out⟩
                   have n1_ : Aside0 ((((w47.setCell ⟨gb133, 0, none⟩ (.int .i64 ((rd_T43 ((rd_T46 l0 ((rd_T48 l1 (ji33)).f0)).f1) ((rd_T48 l1 (ji33)).f2)).f0))).setCell ⟨gb133, 1, none⟩ (.int .i64 ((rd_T43 ((rd_T46 l0 ((rd_T48 l1 (ji33)).f0)).f1) ((rd_T48 l1 (ji33)).f2)).f1))).setCell ⟨gb133, 2, none⟩ (.int .i64 ((rd_T43 ((rd_T46 l0 ((rd_T48 l1 (ji33)).f0)).f1) ((rd_T48 l1 (ji33)).f2)).f2))).heap[gb133]? = some (.cells #[.int .i64 ((rd_T43 ((rd_T46 l0 ((rd_T48 l1 (ji33)).f0)).f1) ((rd_T48 l1 (ji33)).f2)).f0), .int .i64 ((rd_T43 ((rd_T46 l0 ((rd_T48 l1 (ji33)).f0)).f1) ((rd_T48 l1 (ji33)).f2)).f1), .int .i64 ((rd_T43 ((rd_T46 l0 ((rd_T48 l1 (ji33)).f0)).f1) ((rd_T48 l1 (ji33)).f2)).f2)] 43 (0, 0))) := ⟨by (with_reducible repeat (first | refine blk_drewN ?_ _ | refine blk_drew ?_ | refine blk_alloc ?_ _)); refine blk_put (cs := #[.int .i64 ((rd_T43 ((rd_T46 l0 ((rd_T48 l1 (ji33)).f0)).f1) ((rd_T48 l1 (ji33)).f2)).f0), .int .i64 ((rd_T43 ((rd_T46 l0 ((rd_T48 l1 (ji33)).f0)).f1) ((rd_T48 l1 (ji33)).f2)).f1), .int .i64 0]) ?_ 2 _ rfl; (with_reducible repeat (first | refine blk_drewN ?_ _ | refine blk_drew ?_ | refine blk_alloc ?_ _)); refine blk_put (cs := #[.int .i64 ((rd_T43 ((rd_T46 l0 ((rd_T48 l1 (ji33)).f0)).f1) ((rd_T48 l1 (ji33)).f2)).f0), .int .i64 0, .int .i64 0]) ?_ 1 _ rfl; (with_reducible repeat (first | refine blk_drewN ?_ _ | refine blk_drew ?_ | refine blk_alloc ?_ _)); refine blk_put (cs := #[.int .i64 0, .int .i64 0, .int .i64 0]) ?_ 0 _ rfl; (with_reducible repeat (first | refine blk_drewN ?_ _ | refine blk_drew ?_ | refine blk_alloc ?_ _)); exact BK133.out⟩
                   have n2_ : Aside0 (Below w.heap.size w (((w47.setCell ⟨gb133, 0, none⟩ (.int .i64 ((rd_T43 ((rd_T46 l0 ((rd_T48 l1 (ji33)).f0)).f1) ((rd_T48 l1 (ji33)).f2)).f0))).setCell ⟨gb133, 1, none⟩ (.int .i64 ((rd_T43 ((rd_T46 l0 ((rd_T48 l1 (ji33)).f0)).f1) ((rd_T48 l1 (ji33)).f2)).f1))).setCell ⟨gb133, 2, none⟩ (.int .i64 ((rd_T43 ((rd_T46 l0 ((rd_T48 l1 (ji33)).f0)).f1) ((rd_T48 l1 (ji33)).f2)).f2)))) := ⟨nH2 HB.out GE124.out GE133.out⟩
                   (try clear BK124); (try clear BK133); (try clear HB)
                   generalize (((w47.setCell ⟨gb133, 0, none⟩ (.int .i64 ((rd_T43 ((rd_T46 l0 ((rd_T48 l1 (ji33)).f0)).f1) ((rd_T48 l1 (ji33)).f2)).f0))).setCell ⟨gb133, 1, none⟩ (.int .i64 ((rd_T43 ((rd_T46 l0 ((rd_T48 l1 (ji33)).f0)).f1) ((rd_T48 l1 (ji33)).f2)).f1))).setCell ⟨gb133, 2, none⟩ (.int .i64 ((rd_T43 ((rd_T46 l0 ((rd_T48 l1 (ji33)).f0)).f1) ((rd_T48 l1 (ji33)).f2)).f2))) = w51 at n0_ n1_ n2_ ⊢
                   have BK124 := n0_; have BK133 := n1_; have HB := n2_; clear n0_ n1_ n2_
                   have n0_ := Aside0.mk (blk_drew BK124.out)
                   have n1_ := Aside0.mk (blk_drew BK133.out)
                   have n2_ := Aside0.mk (below_drew1 HB.out)
                   clear BK124; clear BK133; clear HB; have BK124 := n0_; have BK133 := n1_; have HB := n2_; clear n0_ n1_ n2_
                   have p134 : 0 ≤ (((rd_T48 l1 x7_2).f0) : Int) := of_decide_eq_true nQ
                   have q134 : ((rd_T48 l1 x7_2).f0) < (l0.length : Int) := of_decide_eq_true nQ
                   obtain ⟨ad134, A134_1, c134_1, e134, hx134_0, hx134_1, hl134_1, hi134_1⟩ := at_T46 HR0.out ((rd_T48 l1 x7_2).f0) p134 q134
                   have hw134_1 := hx134_1; have hw134_0 := hx134_0
                   obtain rfl : ad130 = ad134 := (by injection e134)
                   replace hx134_0 := (HB.out.cell (World.block_lt_of_cell? w _ hx134_0)).trans hx134_0
                   replace hx134_1 := (HB.out.cell (World.block_lt_of_cell? w _ hx134_1)).trans hx134_1
                   have HR134_1 := Aside0.mk hi134_1
                   have HC134_1 := Aside0.mk hl134_1
                   clear hi134_1 hl134_1; replace p134 := eq_true p134; replace q134 := eq_true q134
                   have p135 : 0 ≤ (((rd_T48 l1 x7_2).f1) : Int) := of_decide_eq_true nQ
                   have q135 : ((rd_T48 l1 x7_2).f1) < (((rd_T46 l0 ((rd_T48 l1 x7_2).f0)).f1).length : Int) := of_decide_eq_true nQ
                   obtain ⟨ad135, e135, hx135_0, hx135_1, hx135_2⟩ := at_T43 HR134_1.out ((rd_T48 l1 x7_2).f1) p135 q135
                   have hw135_2 := hx135_2; have hw135_1 := hx135_1; have hw135_0 := hx135_0; cases e135
                   replace hx135_0 := (HB.out.cell (World.block_lt_of_cell? w _ hx135_0)).trans hx135_0
                   replace hx135_1 := (HB.out.cell (World.block_lt_of_cell? w _ hx135_1)).trans hx135_1
                   replace hx135_2 := (HB.out.cell (World.block_lt_of_cell? w _ hx135_2)).trans hx135_2
                   replace p135 := eq_true p135; replace q135 := eq_true q135
                   refine start_ (n := 12) (S := fun w' => w'.cell? ⟨gb124, 0, none⟩ = some (.int .i64 ((rd_T48 l1 x7_2).f0)) ∧ w'.cell? ⟨gb124, 1, none⟩ = some (.int .i64 ((rd_T48 l1 x7_2).f1)) ∧ w'.cell? ⟨gb124, 2, none⟩ = some (.int .i64 ((rd_T48 l1 x7_2).f2)) ∧ w'.cell? (ad130.add ((((rd_T48 l1 x7_2).f0)).toNat * 2)) = some (.string ((rd_T46 l0 ((rd_T48 l1 x7_2).f0)).f0)) ∧ w'.cell? ⟨(ad130.add ((((rd_T48 l1 x7_2).f0)).toNat * 2)).block, (ad130.add ((((rd_T48 l1 x7_2).f0)).toNat * 2)).off + 1, none⟩ = some (.slice (some ad135) ((rd_T46 l0 ((rd_T48 l1 x7_2).f0)).f1).length c134_1) ∧ w'.cell? (ad135.add ((((rd_T48 l1 x7_2).f1)).toNat * 3)) = some (.int .i64 ((rd_T43 ((rd_T46 l0 ((rd_T48 l1 x7_2).f0)).f1) ((rd_T48 l1 x7_2).f1)).f0)) ∧ w'.cell? ⟨(ad135.add ((((rd_T48 l1 x7_2).f1)).toNat * 3)).block, (ad135.add ((((rd_T48 l1 x7_2).f1)).toNat * 3)).off + 1, none⟩ = some (.int .i64 ((rd_T43 ((rd_T46 l0 ((rd_T48 l1 x7_2).f0)).f1) ((rd_T48 l1 x7_2).f1)).f1)) ∧ w'.cell? ⟨(ad135.add ((((rd_T48 l1 x7_2).f1)).toNat * 3)).block, (ad135.add ((((rd_T48 l1 x7_2).f1)).toNat * 3)).off + 2, none⟩ = some (.int .i64 ((rd_T43 ((rd_T46 l0 ((rd_T48 l1 x7_2).f0)).f1) ((rd_T48 l1 x7_2).f1)).f2))) (ds := []) #[F,F,F,F,F,F,F,F,F,F,F,F] (by kernel_rfl) rfl rfl ⟨(blk_cell BK124.out 0).trans rfl, (blk_cell BK124.out 1).trans rfl, (blk_cell BK124.out 2).trans rfl, (nC HB.out hw134_0 :), (nC HB.out hw134_1 :), (nC HB.out hw135_0 :), (nC HB.out hw135_1 :), (nC HB.out hw135_2 :)⟩ (fun hHeld => ?_); refine with_tabW spec_LegsOk.tab11 spec_LegsOk.bits11 (fun HT_ HW_ => ?_)
                   generalize w51.drew = w52 at BK124 BK133 HB HR134_1 hx134_0 hx134_1 hx135_0 hx135_1 hx135_2 hHeld ⊢
                   refine pU 0 (some 84) #[T,F,F,F,F,F,F,F,F,F,F,F] rfl rfl HT_.out ?_
                   refine pU 1 (some 85) #[T,T,F,F,F,F,F,F,F,F,F,F] rfl rfl HT_.out ?_
                   refine pU 6 (some 90) #[T,T,F,F,F,F,T,F,F,F,F,F] rfl rfl HT_.out ?_
                   refine tU8 2 (some 86) #[T,T,T,F,F,F,T,F,F,F,F,F] rfl rfl HT_.out HW_.out hHeld ?_
                   refine pU 3 (some 87) #[T,T,T,T,F,F,T,F,F,F,F,F] rfl rfl HT_.out ?_
                   refine pU 4 (some 88) #[T,T,T,T,T,F,T,F,F,F,F,F] rfl rfl HT_.out ?_
                   refine tU8 5 (some 89) #[T,T,T,T,T,T,T,F,F,F,F,F] rfl rfl HT_.out HW_.out hHeld ?_
                   refine tU8 7 (some 91) #[T,T,T,T,T,T,T,T,F,F,F,F] rfl rfl HT_.out HW_.out hHeld ?_
                   refine pU 8 (some 92) #[T,T,T,T,T,T,T,T,T,F,F,F] rfl rfl HT_.out ?_
                   refine tU8 9 (some 93) #[T,T,T,T,T,T,T,T,T,T,F,F] rfl rfl HT_.out HW_.out hHeld ?_
                   refine one_ (i := 10) (N := some 10) #[T,T,T,T,T,T,T,T,T,T,T,F] rfl rfl (one_of HT_.out (by kernel_rfl)) (by decide) (fun K hK => ?_)
                   refine box_step ?hg (N := 10) ?hd (cs := #[.int .i64 0, .int .i64 0, .int .i64 0]) (t := 43) ?hr ?_; (case hd => rfl); (case hg => rfl); (case hr => first | (go_simp; done) | (go_simp; rfl))
                   intro gb136 hg w53 hbox hb
                   have n0_ := Aside0.mk (blk_below (g := gb124) (o := .cells #[.int .i64 ((rd_T48 l1 x7_2).f0), .int .i64 ((rd_T48 l1 x7_2).f1), .int .i64 ((rd_T48 l1 x7_2).f2)] 48 (0, 0)) (nB BK124.out) hb)
                   have n1_ := Aside0.mk (blk_below (g := gb133) (o := .cells #[.int .i64 ((rd_T43 ((rd_T46 l0 ((rd_T48 l1 (ji33)).f0)).f1) ((rd_T48 l1 (ji33)).f2)).f0), .int .i64 ((rd_T43 ((rd_T46 l0 ((rd_T48 l1 (ji33)).f0)).f1) ((rd_T48 l1 (ji33)).f2)).f1), .int .i64 ((rd_T43 ((rd_T46 l0 ((rd_T48 l1 (ji33)).f0)).f1) ((rd_T48 l1 (ji33)).f2)).f2)] 43 (0, 0)) (nB BK133.out) hb)
                   have n2_ := Aside0.mk (below_step (nH2 HB.out GE124.out GE133.out) hb)
                   have n3_ := Aside0.mk (hbox)
                   have n4_ := Aside0.mk ((by rw [hg]; exact (below_size (nH2 HB.out GE124.out GE133.out)) : w.heap.size ≤ gb136))
                   have n5_ := Aside0.mk ((by rw [hg]; exact (below_size (nH2 HB.out GE124.out GE133.out)) : w.heap.size ≤ gb136))
                   have n6_ := Aside0.mk ((by rw [hg]; exact Nat.ne_of_lt (blk_lt (g := gb124) (o := .cells #[.int .i64 ((rd_T48 l1 x7_2).f0), .int .i64 ((rd_T48 l1 x7_2).f1), .int .i64 ((rd_T48 l1 x7_2).f2)] 48 (0, 0)) (nB BK124.out)) : gb124 ≠ gb136))
                   have n7_ := Aside0.mk ((by rw [hg]; exact Nat.ne_of_gt (blk_lt (g := gb124) (o := .cells #[.int .i64 ((rd_T48 l1 x7_2).f0), .int .i64 ((rd_T48 l1 x7_2).f1), .int .i64 ((rd_T48 l1 x7_2).f2)] 48 (0, 0)) (nB BK124.out)) : gb136 ≠ gb124))
                   have n8_ := Aside0.mk ((by rw [hg]; exact Nat.ne_of_lt (blk_lt (g := gb133) (o := .cells #[.int .i64 ((rd_T43 ((rd_T46 l0 ((rd_T48 l1 (ji33)).f0)).f1) ((rd_T48 l1 (ji33)).f2)).f0), .int .i64 ((rd_T43 ((rd_T46 l0 ((rd_T48 l1 (ji33)).f0)).f1) ((rd_T48 l1 (ji33)).f2)).f1), .int .i64 ((rd_T43 ((rd_T46 l0 ((rd_T48 l1 (ji33)).f0)).f1) ((rd_T48 l1 (ji33)).f2)).f2)] 43 (0, 0)) (nB BK133.out)) : gb133 ≠ gb136))
                   have n9_ := Aside0.mk ((by rw [hg]; exact Nat.ne_of_gt (blk_lt (g := gb133) (o := .cells #[.int .i64 ((rd_T43 ((rd_T46 l0 ((rd_T48 l1 (ji33)).f0)).f1) ((rd_T48 l1 (ji33)).f2)).f0), .int .i64 ((rd_T43 ((rd_T46 l0 ((rd_T48 l1 (ji33)).f0)).f1) ((rd_T48 l1 (ji33)).f2)).f1), .int .i64 ((rd_T43 ((rd_T46 l0 ((rd_T48 l1 (ji33)).f0)).f1) ((rd_T48 l1 (ji33)).f2)).f2)] 43 (0, 0)) (nB BK133.out)) : gb136 ≠ gb133))
                   clear BK124; clear BK133; clear HB; have BK124 := n0_; have BK133 := n1_; have HB := n2_; have BK136 := n3_; have GW136 := n4_; have GE136 := n5_; have NB124_136 := n6_; have NB136_124 := n7_; have NB133_136 := n8_; have NB136_133 := n9_; clear n0_ n1_ n2_ n3_ n4_ n5_ n6_ n7_ n8_ n9_; clear hb hbox hg
                   refine hK.out _ _ ⟨(blk_cell BK124.out 0).trans rfl, (blk_cell BK124.out 1).trans rfl, (blk_cell BK124.out 2).trans rfl, (nC HB.out hw134_0 :), (nC HB.out hw134_1 :), (nC HB.out hw135_0 :), (nC HB.out hw135_1 :), (nC HB.out hw135_2 :)⟩ (fun hHeld => ?_)
                   clear hK K
                   refine norm_ (a' := ?_) ?_ ?_
                   rotate_left
                   · show Act.put _ (some 10) _ = _
                     simp only [Act.put, List.setIfInBounds_toArray, List.set_cons_zero, List.set_cons_succ, i64_w, i32_w]
                     rfl
                   refine one_ (i := 11) (N := none) #[T,T,T,T,T,T,T,T,T,T,T,T] rfl rfl (one_of HT_.out (by kernel_rfl)) (by decide) (fun K hK => ?_)
                   have hs54 : w53.cell? ⟨gb136, 0, none⟩ = some (.int .i64 0) := (blk_cell BK136.out 0).trans rfl
                   have hfs54 := blk_frozen BK136.out 0
                   have hns54_0 := NB124_136.out; have hns54_1 := NB133_136.out; have hms54_0 := NB136_124.out; have hms54_1 := NB136_133.out
                   have hs55 : w53.cell? ⟨gb136, 1, none⟩ = some (.int .i64 0) := (blk_cell BK136.out 1).trans rfl
                   have hfs55 := blk_frozen BK136.out 1
                   have hns55_0 := NB124_136.out; have hns55_1 := NB133_136.out; have hms55_0 := NB136_124.out; have hms55_1 := NB136_133.out
                   have hs56 : w53.cell? ⟨gb136, 2, none⟩ = some (.int .i64 0) := (blk_cell BK136.out 2).trans rfl
                   have hfs56 := blk_frozen BK136.out 2
                   have hns56_0 := NB124_136.out; have hns56_1 := NB133_136.out; have hms56_0 := NB136_124.out; have hms56_1 := NB136_133.out
                   refine skip_ (w1 := ?_) (by rfl) rfl ?_ ?_
                   rotate_left
                   · go_simp; rfl
                   refine hK.out _ _ ⟨((cell_far (p := ⟨gb136, _, none⟩) NB124_136.out _).trans (((cell_far (p := ⟨gb136, _, none⟩) NB124_136.out _).trans (((cell_far (p := ⟨gb136, _, none⟩) NB124_136.out _).trans (hHeld.1)))))), ((cell_far (p := ⟨gb136, _, none⟩) NB124_136.out _).trans (((cell_far (p := ⟨gb136, _, none⟩) NB124_136.out _).trans (((cell_far (p := ⟨gb136, _, none⟩) NB124_136.out _).trans (hHeld.2.1)))))), ((cell_far (p := ⟨gb136, _, none⟩) NB124_136.out _).trans (((cell_far (p := ⟨gb136, _, none⟩) NB124_136.out _).trans (((cell_far (p := ⟨gb136, _, none⟩) NB124_136.out _).trans (hHeld.2.2.1)))))), ((nF gb136 hw134_0 GW136.out).trans (((nF gb136 hw134_0 GW136.out).trans (((nF gb136 hw134_0 GW136.out).trans (hHeld.2.2.2.1)))))), ((nF gb136 hw134_1 GW136.out).trans (((nF gb136 hw134_1 GW136.out).trans (((nF gb136 hw134_1 GW136.out).trans (hHeld.2.2.2.2.1)))))), ((nF gb136 hw135_0 GW136.out).trans (((nF gb136 hw135_0 GW136.out).trans (((nF gb136 hw135_0 GW136.out).trans (hHeld.2.2.2.2.2.1)))))), ((nF gb136 hw135_1 GW136.out).trans (((nF gb136 hw135_1 GW136.out).trans (((nF gb136 hw135_1 GW136.out).trans (hHeld.2.2.2.2.2.2.1)))))), ((nF gb136 hw135_2 GW136.out).trans (((nF gb136 hw135_2 GW136.out).trans (((nF gb136 hw135_2 GW136.out).trans (hHeld.2.2.2.2.2.2.2))))))⟩ (fun hHeld => ?_)
                   clear hK K
                   refine done_ (done_of HT_.out (by kernel_rfl)) ?_
                   have hnb57 := NB133_124.out; have hnc57 := NB124_133.out; have hnb58 := NB133_136.out; have hnc58 := NB136_133.out
                   have hcz59_0 : w53.cell? ⟨gb133, 0, none⟩ = some (.int .i64 ((rd_T43 ((rd_T46 l0 ((rd_T48 l1 (ji33)).f0)).f1) ((rd_T48 l1 (ji33)).f2)).f0)) := (blk_cell BK133.out 0).trans rfl
                   have hcz59_1 : w53.cell? ⟨gb133, 1, none⟩ = some (.int .i64 ((rd_T43 ((rd_T46 l0 ((rd_T48 l1 (ji33)).f0)).f1) ((rd_T48 l1 (ji33)).f2)).f1)) := (blk_cell BK133.out 1).trans rfl
                   have hcz59_2 : w53.cell? ⟨gb133, 2, none⟩ = some (.int .i64 ((rd_T43 ((rd_T46 l0 ((rd_T48 l1 (ji33)).f0)).f1) ((rd_T48 l1 (ji33)).f2)).f2)) := (blk_cell BK133.out 2).trans rfl
                   have hfz59_0 := blk_frozen BK133.out 0
                   have hfz59_1 := blk_frozen BK133.out 1
                   have hfz59_2 := blk_frozen BK133.out 2
                   have hnb60 := NB136_124.out; have hnc60 := NB124_136.out
                   have hcz61_0 : w53.cell? ⟨gb136, 0, none⟩ = some (.int .i64 0) := (blk_cell BK136.out 0).trans rfl
                   have hcz61_1 : w53.cell? ⟨gb136, 1, none⟩ = some (.int .i64 0) := (blk_cell BK136.out 1).trans rfl
                   have hcz61_2 : w53.cell? ⟨gb136, 2, none⟩ = some (.int .i64 0) := (blk_cell BK136.out 2).trans rfl
                   have hfz61_0 := blk_frozen BK136.out 0
                   have hfz61_1 := blk_frozen BK136.out 1
                   have hfz61_2 := blk_frozen BK136.out 2
                   try go_wp2
                   go_ret
                   exact ⟨by first | rfl | (simp [errW_none, errW_some] <;> rfl) | (simp only [← hji33]; first | rfl | (simp [errW_none, errW_some] <;> rfl)) | (simp [*, errW_none, errW_some] <;> first | rfl | (simp [wrap64]; done)), nH3 HB.out GE124.out GE133.out GE136.out⟩
                 · rw [if_neg c45] at H
                   have c45b0 : decide (((rd_T43 ((rd_T46 l0 ((rd_T48 l1 x7_2).f0)).f1) ((rd_T48 l1 x7_2).f1)).f2) < (wrap64 (((rd_T43 ((rd_T46 l0 ((rd_T48 l1 (ji33)).f0)).f1) ((rd_T48 l1 (ji33)).f2)).f1) + a2))) = false := decide_eq_false c45
                   clear c45
                   have H' := Aside0.mk H
                   clear H
                   try go_wp2
                   have n0_ := Aside0.mk (blk_drew BK124.out)
                   have n1_ := Aside0.mk (below_drew1 HB.out)
                   clear BK124; clear HB; have BK124 := n0_; have HB := n1_; clear n0_ n1_
                   have p129 : 0 ≤ ((ji33) : Int) := of_decide_eq_true nQ
                   have q129 : (ji33) < (l1.length : Int) := of_decide_eq_true nQ
                   obtain ⟨ad129, e129, hx129_0, hx129_1, hx129_2⟩ := at_T48 HR1.out (ji33) p129 q129
                   have hw129_2 := hx129_2; have hw129_1 := hx129_1; have hw129_0 := hx129_0
                   obtain rfl : ad123 = ad129 := (by injection e129)
                   replace hx129_0 := (HB.out.cell (World.block_lt_of_cell? w _ hx129_0)).trans hx129_0
                   replace hx129_1 := (HB.out.cell (World.block_lt_of_cell? w _ hx129_1)).trans hx129_1
                   replace hx129_2 := (HB.out.cell (World.block_lt_of_cell? w _ hx129_2)).trans hx129_2
                   replace p129 := eq_true p129; replace q129 := eq_true q129
                   have p130 : 0 ≤ (((rd_T48 l1 (ji33)).f0) : Int) := of_decide_eq_true nQ
                   have q130 : ((rd_T48 l1 (ji33)).f0) < (l0.length : Int) := of_decide_eq_true nQ
                   obtain ⟨ad130, A130_1, c130_1, e130, hx130_0, hx130_1, hl130_1, hi130_1⟩ := at_T46 HR0.out ((rd_T48 l1 (ji33)).f0) p130 q130
                   have hw130_1 := hx130_1; have hw130_0 := hx130_0; cases e130
                   replace hx130_0 := (HB.out.cell (World.block_lt_of_cell? w _ hx130_0)).trans hx130_0
                   replace hx130_1 := (HB.out.cell (World.block_lt_of_cell? w _ hx130_1)).trans hx130_1
                   have HR130_1 := Aside0.mk hi130_1
                   have HC130_1 := Aside0.mk hl130_1
                   clear hi130_1 hl130_1; replace p130 := eq_true p130; replace q130 := eq_true q130
                   have p131 : 0 ≤ ((ji33) : Int) := of_decide_eq_true nQ
                   have q131 : (ji33) < (l1.length : Int) := of_decide_eq_true nQ
                   obtain ⟨ad131, e131, hx131_0, hx131_1, hx131_2⟩ := at_T48 HR1.out (ji33) p131 q131
                   have hw131_2 := hx131_2; have hw131_1 := hx131_1; have hw131_0 := hx131_0
                   obtain rfl : ad123 = ad131 := (by injection e131)
                   replace hx131_0 := (HB.out.cell (World.block_lt_of_cell? w _ hx131_0)).trans hx131_0
                   replace hx131_1 := (HB.out.cell (World.block_lt_of_cell? w _ hx131_1)).trans hx131_1
                   replace hx131_2 := (HB.out.cell (World.block_lt_of_cell? w _ hx131_2)).trans hx131_2
                   replace p131 := eq_true p131; replace q131 := eq_true q131
                   have p132 : 0 ≤ (((rd_T48 l1 (ji33)).f2) : Int) := of_decide_eq_true nQ
                   have q132 : ((rd_T48 l1 (ji33)).f2) < (((rd_T46 l0 ((rd_T48 l1 (ji33)).f0)).f1).length : Int) := of_decide_eq_true nQ
                   obtain ⟨ad132, e132, hx132_0, hx132_1, hx132_2⟩ := at_T43 HR130_1.out ((rd_T48 l1 (ji33)).f2) p132 q132
                   have hw132_2 := hx132_2; have hw132_1 := hx132_1; have hw132_0 := hx132_0; cases e132
                   replace hx132_0 := (HB.out.cell (World.block_lt_of_cell? w _ hx132_0)).trans hx132_0
                   replace hx132_1 := (HB.out.cell (World.block_lt_of_cell? w _ hx132_1)).trans hx132_1
                   replace hx132_2 := (HB.out.cell (World.block_lt_of_cell? w _ hx132_2)).trans hx132_2
                   replace p132 := eq_true p132; replace q132 := eq_true q132
                   refine start_ (n := 20) (S := fun w' => w'.cell? (ad123.add (((ji33)).toNat * 3)) = some (.int .i64 ((rd_T48 l1 (ji33)).f0)) ∧ w'.cell? ⟨(ad123.add (((ji33)).toNat * 3)).block, (ad123.add (((ji33)).toNat * 3)).off + 1, none⟩ = some (.int .i64 ((rd_T48 l1 (ji33)).f1)) ∧ w'.cell? ⟨(ad123.add (((ji33)).toNat * 3)).block, (ad123.add (((ji33)).toNat * 3)).off + 2, none⟩ = some (.int .i64 ((rd_T48 l1 (ji33)).f2)) ∧ w'.cell? (ad130.add ((((rd_T48 l1 (ji33)).f0)).toNat * 2)) = some (.string ((rd_T46 l0 ((rd_T48 l1 (ji33)).f0)).f0)) ∧ w'.cell? ⟨(ad130.add ((((rd_T48 l1 (ji33)).f0)).toNat * 2)).block, (ad130.add ((((rd_T48 l1 (ji33)).f0)).toNat * 2)).off + 1, none⟩ = some (.slice (some ad132) ((rd_T46 l0 ((rd_T48 l1 (ji33)).f0)).f1).length c130_1) ∧ w'.cell? (ad123.add (((ji33)).toNat * 3)) = some (.int .i64 ((rd_T48 l1 (ji33)).f0)) ∧ w'.cell? ⟨(ad123.add (((ji33)).toNat * 3)).block, (ad123.add (((ji33)).toNat * 3)).off + 1, none⟩ = some (.int .i64 ((rd_T48 l1 (ji33)).f1)) ∧ w'.cell? ⟨(ad123.add (((ji33)).toNat * 3)).block, (ad123.add (((ji33)).toNat * 3)).off + 2, none⟩ = some (.int .i64 ((rd_T48 l1 (ji33)).f2)) ∧ w'.cell? (ad132.add ((((rd_T48 l1 (ji33)).f2)).toNat * 3)) = some (.int .i64 ((rd_T43 ((rd_T46 l0 ((rd_T48 l1 (ji33)).f0)).f1) ((rd_T48 l1 (ji33)).f2)).f0)) ∧ w'.cell? ⟨(ad132.add ((((rd_T48 l1 (ji33)).f2)).toNat * 3)).block, (ad132.add ((((rd_T48 l1 (ji33)).f2)).toNat * 3)).off + 1, none⟩ = some (.int .i64 ((rd_T43 ((rd_T46 l0 ((rd_T48 l1 (ji33)).f0)).f1) ((rd_T48 l1 (ji33)).f2)).f1)) ∧ w'.cell? ⟨(ad132.add ((((rd_T48 l1 (ji33)).f2)).toNat * 3)).block, (ad132.add ((((rd_T48 l1 (ji33)).f2)).toNat * 3)).off + 2, none⟩ = some (.int .i64 ((rd_T43 ((rd_T46 l0 ((rd_T48 l1 (ji33)).f0)).f1) ((rd_T48 l1 (ji33)).f2)).f2))) (ds := []) #[F,F,F,F,F,F,F,F,F,F,F,F,F,F,F,F,F,F,F,F] (by kernel_rfl) rfl rfl ⟨(nC HB.out hw129_0 :), (nC HB.out hw129_1 :), (nC HB.out hw129_2 :), (nC HB.out hw130_0 :), (nC HB.out hw130_1 :), (nC HB.out hw131_0 :), (nC HB.out hw131_1 :), (nC HB.out hw131_2 :), (nC HB.out hw132_0 :), (nC HB.out hw132_1 :), (nC HB.out hw132_2 :)⟩ (fun hHeld => ?_); refine with_tabW spec_LegsOk.tab10 spec_LegsOk.bits10 (fun HT_ HW_ => ?_)
                   generalize wc.drew = w62 at BK124 HB HR130_1 hx129_0 hx129_1 hx129_2 hx130_0 hx130_1 hx131_0 hx131_1 hx131_2 hx132_0 hx132_1 hx132_2 hHeld ⊢
                   refine pU 0 (some 66) #[T,F,F,F,F,F,F,F,F,F,F,F,F,F,F,F,F,F,F,F] rfl rfl HT_.out ?_
                   refine pU 1 (some 67) #[T,T,F,F,F,F,F,F,F,F,F,F,F,F,F,F,F,F,F,F] rfl rfl HT_.out ?_
                   refine pU 2 (some 68) #[T,T,T,F,F,F,F,F,F,F,F,F,F,F,F,F,F,F,F,F] rfl rfl HT_.out ?_
                   refine pU 3 (some 69) #[T,T,T,T,F,F,F,F,F,F,F,F,F,F,F,F,F,F,F,F] rfl rfl HT_.out ?_
                   refine pU 4 (some 70) #[T,T,T,T,T,F,F,F,F,F,F,F,F,F,F,F,F,F,F,F] rfl rfl HT_.out ?_
                   refine pU 5 (some 71) #[T,T,T,T,T,T,F,F,F,F,F,F,F,F,F,F,F,F,F,F] rfl rfl HT_.out ?_
                   refine pU 10 (some 76) #[T,T,T,T,T,T,F,F,F,F,T,F,F,F,F,F,F,F,F,F] rfl rfl HT_.out ?_
                   refine pU 11 (some 77) #[T,T,T,T,T,T,F,F,F,F,T,T,F,F,F,F,F,F,F,F] rfl rfl HT_.out ?_
                   refine pU 12 (some 78) #[T,T,T,T,T,T,F,F,F,F,T,T,T,F,F,F,F,F,F,F] rfl rfl HT_.out ?_
                   refine pU 13 (some 79) #[T,T,T,T,T,T,F,F,F,F,T,T,T,T,F,F,F,F,F,F] rfl rfl HT_.out ?_
                   refine pU 14 (some 80) #[T,T,T,T,T,T,F,F,F,F,T,T,T,T,T,F,F,F,F,F] rfl rfl HT_.out ?_
                   refine tU11 6 (some 72) #[T,T,T,T,T,T,T,F,F,F,T,T,T,T,T,F,F,F,F,F] rfl rfl HT_.out HW_.out hHeld ?_
                   refine pU 7 (some 73) #[T,T,T,T,T,T,T,T,F,F,T,T,T,T,T,F,F,F,F,F] rfl rfl HT_.out ?_
                   refine pU 8 (some 74) #[T,T,T,T,T,T,T,T,T,F,T,T,T,T,T,F,F,F,F,F] rfl rfl HT_.out ?_
                   refine tU11 9 (some 75) #[T,T,T,T,T,T,T,T,T,T,T,T,T,T,T,F,F,F,F,F] rfl rfl HT_.out HW_.out hHeld ?_
                   refine tU11 15 (some 81) #[T,T,T,T,T,T,T,T,T,T,T,T,T,T,T,T,F,F,F,F] rfl rfl HT_.out HW_.out hHeld ?_
                   refine pU 16 (some 82) #[T,T,T,T,T,T,T,T,T,T,T,T,T,T,T,T,T,F,F,F] rfl rfl HT_.out ?_
                   refine tU11 17 (some 83) #[T,T,T,T,T,T,T,T,T,T,T,T,T,T,T,T,T,T,F,F] rfl rfl HT_.out HW_.out hHeld ?_
                   refine one_ (i := 18) (N := some 9) #[T,T,T,T,T,T,T,T,T,T,T,T,T,T,T,T,T,T,T,F] rfl rfl (one_of HT_.out (by kernel_rfl)) (by decide) (fun K hK => ?_)
                   refine box_step ?hg (N := 9) ?hd (cs := #[.int .i64 0, .int .i64 0, .int .i64 0]) (t := 43) ?hr ?_; (case hd => rfl); (case hg => rfl); (case hr => first | (go_simp; done) | (go_simp; rfl))
                   intro gb133 hg w63 hbox hb
                   have n0_ := Aside0.mk (blk_below (g := gb124) (o := .cells #[.int .i64 ((rd_T48 l1 x7_2).f0), .int .i64 ((rd_T48 l1 x7_2).f1), .int .i64 ((rd_T48 l1 x7_2).f2)] 48 (0, 0)) (nB BK124.out) hb)
                   have n1_ := Aside0.mk (below_step (nH1 HB.out GE124.out) hb)
                   have n2_ := Aside0.mk (hbox)
                   have n3_ := Aside0.mk ((by rw [hg]; exact (below_size (nH1 HB.out GE124.out)) : w.heap.size ≤ gb133))
                   have n4_ := Aside0.mk ((by rw [hg]; exact (below_size (nH1 HB.out GE124.out)) : w.heap.size ≤ gb133))
                   have n5_ := Aside0.mk ((by rw [hg]; exact Nat.ne_of_lt (blk_lt (g := gb124) (o := .cells #[.int .i64 ((rd_T48 l1 x7_2).f0), .int .i64 ((rd_T48 l1 x7_2).f1), .int .i64 ((rd_T48 l1 x7_2).f2)] 48 (0, 0)) (nB BK124.out)) : gb124 ≠ gb133))
                   have n6_ := Aside0.mk ((by rw [hg]; exact Nat.ne_of_gt (blk_lt (g := gb124) (o := .cells #[.int .i64 ((rd_T48 l1 x7_2).f0), .int .i64 ((rd_T48 l1 x7_2).f1), .int .i64 ((rd_T48 l1 x7_2).f2)] 48 (0, 0)) (nB BK124.out)) : gb133 ≠ gb124))
                   clear BK124; clear HB; have BK124 := n0_; have HB := n1_; have BK133 := n2_; have GW133 := n3_; have GE133 := n4_; have NB124_133 := n5_; have NB133_124 := n6_; clear n0_ n1_ n2_ n3_ n4_ n5_ n6_; clear hb hbox hg
                   refine hK.out _ _ ⟨(nC HB.out hw129_0 :), (nC HB.out hw129_1 :), (nC HB.out hw129_2 :), (nC HB.out hw130_0 :), (nC HB.out hw130_1 :), (nC HB.out hw131_0 :), (nC HB.out hw131_1 :), (nC HB.out hw131_2 :), (nC HB.out hw132_0 :), (nC HB.out hw132_1 :), (nC HB.out hw132_2 :)⟩ (fun hHeld => ?_)
                   clear hK K
                   refine norm_ (a' := ?_) ?_ ?_
                   rotate_left
                   · show Act.put _ (some 9) _ = _
                     simp only [Act.put, List.setIfInBounds_toArray, List.set_cons_zero, List.set_cons_succ, i64_w, i32_w]
                     rfl
                   refine one_ (i := 19) (N := none) #[T,T,T,T,T,T,T,T,T,T,T,T,T,T,T,T,T,T,T,T] rfl rfl (one_of HT_.out (by kernel_rfl)) (by decide) (fun K hK => ?_)
                   have hs64 : w63.cell? ⟨gb133, 0, none⟩ = some (.int .i64 0) := (blk_cell BK133.out 0).trans rfl
                   have hfs64 := blk_frozen BK133.out 0
                   have hns64_0 := NB124_133.out; have hms64_0 := NB133_124.out
                   have hs65 : w63.cell? ⟨gb133, 1, none⟩ = some (.int .i64 0) := (blk_cell BK133.out 1).trans rfl
                   have hfs65 := blk_frozen BK133.out 1
                   have hns65_0 := NB124_133.out; have hms65_0 := NB133_124.out
                   have hs66 : w63.cell? ⟨gb133, 2, none⟩ = some (.int .i64 0) := (blk_cell BK133.out 2).trans rfl
                   have hfs66 := blk_frozen BK133.out 2
                   have hns66_0 := NB124_133.out; have hms66_0 := NB133_124.out
                   refine skip_ (w1 := ?_) (by rfl) rfl ?_ ?_
                   rotate_left
                   · go_simp; rfl
                   refine hK.out _ _ ⟨((nF gb133 hw129_0 GW133.out).trans (((nF gb133 hw129_0 GW133.out).trans (((nF gb133 hw129_0 GW133.out).trans (hHeld.1)))))), ((nF gb133 hw129_1 GW133.out).trans (((nF gb133 hw129_1 GW133.out).trans (((nF gb133 hw129_1 GW133.out).trans (hHeld.2.1)))))), ((nF gb133 hw129_2 GW133.out).trans (((nF gb133 hw129_2 GW133.out).trans (((nF gb133 hw129_2 GW133.out).trans (hHeld.2.2.1)))))), ((nF gb133 hw130_0 GW133.out).trans (((nF gb133 hw130_0 GW133.out).trans (((nF gb133 hw130_0 GW133.out).trans (hHeld.2.2.2.1)))))), ((nF gb133 hw130_1 GW133.out).trans (((nF gb133 hw130_1 GW133.out).trans (((nF gb133 hw130_1 GW133.out).trans (hHeld.2.2.2.2.1)))))), ((nF gb133 hw131_0 GW133.out).trans (((nF gb133 hw131_0 GW133.out).trans (((nF gb133 hw131_0 GW133.out).trans (hHeld.2.2.2.2.2.1)))))), ((nF gb133 hw131_1 GW133.out).trans (((nF gb133 hw131_1 GW133.out).trans (((nF gb133 hw131_1 GW133.out).trans (hHeld.2.2.2.2.2.2.1)))))), ((nF gb133 hw131_2 GW133.out).trans (((nF gb133 hw131_2 GW133.out).trans (((nF gb133 hw131_2 GW133.out).trans (hHeld.2.2.2.2.2.2.2.1)))))), ((nF gb133 hw132_0 GW133.out).trans (((nF gb133 hw132_0 GW133.out).trans (((nF gb133 hw132_0 GW133.out).trans (hHeld.2.2.2.2.2.2.2.2.1)))))), ((nF gb133 hw132_1 GW133.out).trans (((nF gb133 hw132_1 GW133.out).trans (((nF gb133 hw132_1 GW133.out).trans (hHeld.2.2.2.2.2.2.2.2.2.1)))))), ((nF gb133 hw132_2 GW133.out).trans (((nF gb133 hw132_2 GW133.out).trans (((nF gb133 hw132_2 GW133.out).trans (hHeld.2.2.2.2.2.2.2.2.2.2))))))⟩ (fun hHeld => ?_)
                   clear hK K
                   refine done_ (done_of HT_.out (by kernel_rfl)) ?_
                   try go_wp2
                   have n0_ : Aside0 ((((w63.setCell ⟨gb133, 0, none⟩ (.int .i64 ((rd_T43 ((rd_T46 l0 ((rd_T48 l1 (ji33)).f0)).f1) ((rd_T48 l1 (ji33)).f2)).f0))).setCell ⟨gb133, 1, none⟩ (.int .i64 ((rd_T43 ((rd_T46 l0 ((rd_T48 l1 (ji33)).f0)).f1) ((rd_T48 l1 (ji33)).f2)).f1))).setCell ⟨gb133, 2, none⟩ (.int .i64 ((rd_T43 ((rd_T46 l0 ((rd_T48 l1 (ji33)).f0)).f1) ((rd_T48 l1 (ji33)).f2)).f2))).heap[gb124]? = some (.cells #[.int .i64 ((rd_T48 l1 x7_2).f0), .int .i64 ((rd_T48 l1 x7_2).f1), .int .i64 ((rd_T48 l1 x7_2).f2)] 48 (0, 0))) := ⟨by (with_reducible repeat (first | refine blk_drewN ?_ _ | refine blk_drew ?_ | refine blk_alloc ?_ _)); refine blk_far ?_ NB124_133.out _; (with_reducible repeat (first | refine blk_drewN ?_ _ | refine blk_drew ?_ | refine blk_alloc ?_ _)); refine blk_far ?_ NB124_133.out _; (with_reducible repeat (first | refine blk_drewN ?_ _ | refine blk_drew ?_ | refine blk_alloc ?_ _)); refine blk_far ?_ NB124_133.out _; (with_reducible repeat (first | refine blk_drewN ?_ _ | refine blk_drew ?_ | refine blk_alloc ?_ _)); exact BK124.out⟩
                   have n1_ : Aside0 ((((w63.setCell ⟨gb133, 0, none⟩ (.int .i64 ((rd_T43 ((rd_T46 l0 ((rd_T48 l1 (ji33)).f0)).f1) ((rd_T48 l1 (ji33)).f2)).f0))).setCell ⟨gb133, 1, none⟩ (.int .i64 ((rd_T43 ((rd_T46 l0 ((rd_T48 l1 (ji33)).f0)).f1) ((rd_T48 l1 (ji33)).f2)).f1))).setCell ⟨gb133, 2, none⟩ (.int .i64 ((rd_T43 ((rd_T46 l0 ((rd_T48 l1 (ji33)).f0)).f1) ((rd_T48 l1 (ji33)).f2)).f2))).heap[gb133]? = some (.cells #[.int .i64 ((rd_T43 ((rd_T46 l0 ((rd_T48 l1 (ji33)).f0)).f1) ((rd_T48 l1 (ji33)).f2)).f0), .int .i64 ((rd_T43 ((rd_T46 l0 ((rd_T48 l1 (ji33)).f0)).f1) ((rd_T48 l1 (ji33)).f2)).f1), .int .i64 ((rd_T43 ((rd_T46 l0 ((rd_T48 l1 (ji33)).f0)).f1) ((rd_T48 l1 (ji33)).f2)).f2)] 43 (0, 0))) := ⟨by (with_reducible repeat (first | refine blk_drewN ?_ _ | refine blk_drew ?_ | refine blk_alloc ?_ _)); refine blk_put (cs := #[.int .i64 ((rd_T43 ((rd_T46 l0 ((rd_T48 l1 (ji33)).f0)).f1) ((rd_T48 l1 (ji33)).f2)).f0), .int .i64 ((rd_T43 ((rd_T46 l0 ((rd_T48 l1 (ji33)).f0)).f1) ((rd_T48 l1 (ji33)).f2)).f1), .int .i64 0]) ?_ 2 _ rfl; (with_reducible repeat (first | refine blk_drewN ?_ _ | refine blk_drew ?_ | refine blk_alloc ?_ _)); refine blk_put (cs := #[.int .i64 ((rd_T43 ((rd_T46 l0 ((rd_T48 l1 (ji33)).f0)).f1) ((rd_T48 l1 (ji33)).f2)).f0), .int .i64 0, .int .i64 0]) ?_ 1 _ rfl; (with_reducible repeat (first | refine blk_drewN ?_ _ | refine blk_drew ?_ | refine blk_alloc ?_ _)); refine blk_put (cs := #[.int .i64 0, .int .i64 0, .int .i64 0]) ?_ 0 _ rfl; (with_reducible repeat (first | refine blk_drewN ?_ _ | refine blk_drew ?_ | refine blk_alloc ?_ _)); exact BK133.out⟩
                   have n2_ : Aside0 (Below w.heap.size w (((w63.setCell ⟨gb133, 0, none⟩ (.int .i64 ((rd_T43 ((rd_T46 l0 ((rd_T48 l1 (ji33)).f0)).f1) ((rd_T48 l1 (ji33)).f2)).f0))).setCell ⟨gb133, 1, none⟩ (.int .i64 ((rd_T43 ((rd_T46 l0 ((rd_T48 l1 (ji33)).f0)).f1) ((rd_T48 l1 (ji33)).f2)).f1))).setCell ⟨gb133, 2, none⟩ (.int .i64 ((rd_T43 ((rd_T46 l0 ((rd_T48 l1 (ji33)).f0)).f1) ((rd_T48 l1 (ji33)).f2)).f2)))) := ⟨nH2 HB.out GE124.out GE133.out⟩
                   (try clear BK124); (try clear BK133); (try clear HB)
                   generalize (((w63.setCell ⟨gb133, 0, none⟩ (.int .i64 ((rd_T43 ((rd_T46 l0 ((rd_T48 l1 (ji33)).f0)).f1) ((rd_T48 l1 (ji33)).f2)).f0))).setCell ⟨gb133, 1, none⟩ (.int .i64 ((rd_T43 ((rd_T46 l0 ((rd_T48 l1 (ji33)).f0)).f1) ((rd_T48 l1 (ji33)).f2)).f1))).setCell ⟨gb133, 2, none⟩ (.int .i64 ((rd_T43 ((rd_T46 l0 ((rd_T48 l1 (ji33)).f0)).f1) ((rd_T48 l1 (ji33)).f2)).f2))) = w67 at n0_ n1_ n2_ ⊢
                   have BK124 := n0_; have BK133 := n1_; have HB := n2_; clear n0_ n1_ n2_
                   have n0_ := Aside0.mk (blk_drew BK124.out)
                   have n1_ := Aside0.mk (blk_drew BK133.out)
                   have n2_ := Aside0.mk (below_drew1 HB.out)
                   clear BK124; clear BK133; clear HB; have BK124 := n0_; have BK133 := n1_; have HB := n2_; clear n0_ n1_ n2_
                   have p134 : 0 ≤ (((rd_T48 l1 x7_2).f0) : Int) := of_decide_eq_true nQ
                   have q134 : ((rd_T48 l1 x7_2).f0) < (l0.length : Int) := of_decide_eq_true nQ
                   obtain ⟨ad134, A134_1, c134_1, e134, hx134_0, hx134_1, hl134_1, hi134_1⟩ := at_T46 HR0.out ((rd_T48 l1 x7_2).f0) p134 q134
                   have hw134_1 := hx134_1; have hw134_0 := hx134_0
                   obtain rfl : ad130 = ad134 := (by injection e134)
                   replace hx134_0 := (HB.out.cell (World.block_lt_of_cell? w _ hx134_0)).trans hx134_0
                   replace hx134_1 := (HB.out.cell (World.block_lt_of_cell? w _ hx134_1)).trans hx134_1
                   have HR134_1 := Aside0.mk hi134_1
                   have HC134_1 := Aside0.mk hl134_1
                   clear hi134_1 hl134_1; replace p134 := eq_true p134; replace q134 := eq_true q134
                   have p135 : 0 ≤ (((rd_T48 l1 x7_2).f1) : Int) := of_decide_eq_true nQ
                   have q135 : ((rd_T48 l1 x7_2).f1) < (((rd_T46 l0 ((rd_T48 l1 x7_2).f0)).f1).length : Int) := of_decide_eq_true nQ
                   obtain ⟨ad135, e135, hx135_0, hx135_1, hx135_2⟩ := at_T43 HR134_1.out ((rd_T48 l1 x7_2).f1) p135 q135
                   have hw135_2 := hx135_2; have hw135_1 := hx135_1; have hw135_0 := hx135_0; cases e135
                   replace hx135_0 := (HB.out.cell (World.block_lt_of_cell? w _ hx135_0)).trans hx135_0
                   replace hx135_1 := (HB.out.cell (World.block_lt_of_cell? w _ hx135_1)).trans hx135_1
                   replace hx135_2 := (HB.out.cell (World.block_lt_of_cell? w _ hx135_2)).trans hx135_2
                   replace p135 := eq_true p135; replace q135 := eq_true q135
                   refine start_ (n := 12) (S := fun w' => w'.cell? ⟨gb124, 0, none⟩ = some (.int .i64 ((rd_T48 l1 x7_2).f0)) ∧ w'.cell? ⟨gb124, 1, none⟩ = some (.int .i64 ((rd_T48 l1 x7_2).f1)) ∧ w'.cell? ⟨gb124, 2, none⟩ = some (.int .i64 ((rd_T48 l1 x7_2).f2)) ∧ w'.cell? (ad130.add ((((rd_T48 l1 x7_2).f0)).toNat * 2)) = some (.string ((rd_T46 l0 ((rd_T48 l1 x7_2).f0)).f0)) ∧ w'.cell? ⟨(ad130.add ((((rd_T48 l1 x7_2).f0)).toNat * 2)).block, (ad130.add ((((rd_T48 l1 x7_2).f0)).toNat * 2)).off + 1, none⟩ = some (.slice (some ad135) ((rd_T46 l0 ((rd_T48 l1 x7_2).f0)).f1).length c134_1) ∧ w'.cell? (ad135.add ((((rd_T48 l1 x7_2).f1)).toNat * 3)) = some (.int .i64 ((rd_T43 ((rd_T46 l0 ((rd_T48 l1 x7_2).f0)).f1) ((rd_T48 l1 x7_2).f1)).f0)) ∧ w'.cell? ⟨(ad135.add ((((rd_T48 l1 x7_2).f1)).toNat * 3)).block, (ad135.add ((((rd_T48 l1 x7_2).f1)).toNat * 3)).off + 1, none⟩ = some (.int .i64 ((rd_T43 ((rd_T46 l0 ((rd_T48 l1 x7_2).f0)).f1) ((rd_T48 l1 x7_2).f1)).f1)) ∧ w'.cell? ⟨(ad135.add ((((rd_T48 l1 x7_2).f1)).toNat * 3)).block, (ad135.add ((((rd_T48 l1 x7_2).f1)).toNat * 3)).off + 2, none⟩ = some (.int .i64 ((rd_T43 ((rd_T46 l0 ((rd_T48 l1 x7_2).f0)).f1) ((rd_T48 l1 x7_2).f1)).f2))) (ds := []) #[F,F,F,F,F,F,F,F,F,F,F,F] (by kernel_rfl) rfl rfl ⟨(blk_cell BK124.out 0).trans rfl, (blk_cell BK124.out 1).trans rfl, (blk_cell BK124.out 2).trans rfl, (nC HB.out hw134_0 :), (nC HB.out hw134_1 :), (nC HB.out hw135_0 :), (nC HB.out hw135_1 :), (nC HB.out hw135_2 :)⟩ (fun hHeld => ?_); refine with_tabW spec_LegsOk.tab11 spec_LegsOk.bits11 (fun HT_ HW_ => ?_)
                   generalize w67.drew = w68 at BK124 BK133 HB HR134_1 hx134_0 hx134_1 hx135_0 hx135_1 hx135_2 hHeld ⊢
                   refine pU 0 (some 84) #[T,F,F,F,F,F,F,F,F,F,F,F] rfl rfl HT_.out ?_
                   refine pU 1 (some 85) #[T,T,F,F,F,F,F,F,F,F,F,F] rfl rfl HT_.out ?_
                   refine pU 6 (some 90) #[T,T,F,F,F,F,T,F,F,F,F,F] rfl rfl HT_.out ?_
                   refine tU8 2 (some 86) #[T,T,T,F,F,F,T,F,F,F,F,F] rfl rfl HT_.out HW_.out hHeld ?_
                   refine pU 3 (some 87) #[T,T,T,T,F,F,T,F,F,F,F,F] rfl rfl HT_.out ?_
                   refine pU 4 (some 88) #[T,T,T,T,T,F,T,F,F,F,F,F] rfl rfl HT_.out ?_
                   refine tU8 5 (some 89) #[T,T,T,T,T,T,T,F,F,F,F,F] rfl rfl HT_.out HW_.out hHeld ?_
                   refine tU8 7 (some 91) #[T,T,T,T,T,T,T,T,F,F,F,F] rfl rfl HT_.out HW_.out hHeld ?_
                   refine pU 8 (some 92) #[T,T,T,T,T,T,T,T,T,F,F,F] rfl rfl HT_.out ?_
                   refine tU8 9 (some 93) #[T,T,T,T,T,T,T,T,T,T,F,F] rfl rfl HT_.out HW_.out hHeld ?_
                   refine one_ (i := 10) (N := some 10) #[T,T,T,T,T,T,T,T,T,T,T,F] rfl rfl (one_of HT_.out (by kernel_rfl)) (by decide) (fun K hK => ?_)
                   refine box_step ?hg (N := 10) ?hd (cs := #[.int .i64 0, .int .i64 0, .int .i64 0]) (t := 43) ?hr ?_; (case hd => rfl); (case hg => rfl); (case hr => first | (go_simp; done) | (go_simp; rfl))
                   intro gb136 hg w69 hbox hb
                   have n0_ := Aside0.mk (blk_below (g := gb124) (o := .cells #[.int .i64 ((rd_T48 l1 x7_2).f0), .int .i64 ((rd_T48 l1 x7_2).f1), .int .i64 ((rd_T48 l1 x7_2).f2)] 48 (0, 0)) (nB BK124.out) hb)
                   have n1_ := Aside0.mk (blk_below (g := gb133) (o := .cells #[.int .i64 ((rd_T43 ((rd_T46 l0 ((rd_T48 l1 (ji33)).f0)).f1) ((rd_T48 l1 (ji33)).f2)).f0), .int .i64 ((rd_T43 ((rd_T46 l0 ((rd_T48 l1 (ji33)).f0)).f1) ((rd_T48 l1 (ji33)).f2)).f1), .int .i64 ((rd_T43 ((rd_T46 l0 ((rd_T48 l1 (ji33)).f0)).f1) ((rd_T48 l1 (ji33)).f2)).f2)] 43 (0, 0)) (nB BK133.out) hb)
                   have n2_ := Aside0.mk (below_step (nH2 HB.out GE124.out GE133.out) hb)
                   have n3_ := Aside0.mk (hbox)
                   have n4_ := Aside0.mk ((by rw [hg]; exact (below_size (nH2 HB.out GE124.out GE133.out)) : w.heap.size ≤ gb136))
                   have n5_ := Aside0.mk ((by rw [hg]; exact (below_size (nH2 HB.out GE124.out GE133.out)) : w.heap.size ≤ gb136))
                   have n6_ := Aside0.mk ((by rw [hg]; exact Nat.ne_of_lt (blk_lt (g := gb124) (o := .cells #[.int .i64 ((rd_T48 l1 x7_2).f0), .int .i64 ((rd_T48 l1 x7_2).f1), .int .i64 ((rd_T48 l1 x7_2).f2)] 48 (0, 0)) (nB BK124.out)) : gb124 ≠ gb136))
                   have n7_ := Aside0.mk ((by rw [hg]; exact Nat.ne_of_gt (blk_lt (g := gb124) (o := .cells #[.int .i64 ((rd_T48 l1 x7_2).f0), .int .i64 ((rd_T48 l1 x7_2).f1), .int .i64 ((rd_T48 l1 x7_2).f2)] 48 (0, 0)) (nB BK124.out)) : gb136 ≠ gb124))
                   have n8_ := Aside0.mk ((by rw [hg]; exact Nat.ne_of_lt (blk_lt (g := gb133) (o := .cells #[.int .i64 ((rd_T43 ((rd_T46 l0 ((rd_T48 l1 (ji33)).f0)).f1) ((rd_T48 l1 (ji33)).f2)).f0), .int .i64 ((rd_T43 ((rd_T46 l0 ((rd_T48 l1 (ji33)).f0)).f1) ((rd_T48 l1 (ji33)).f2)).f1), .int .i64 ((rd_T43 ((rd_T46 l0 ((rd_T48 l1 (ji33)).f0)).f1) ((rd_T48 l1 (ji33)).f2)).f2)] 43 (0, 0)) (nB BK133.out)) : gb133 ≠ gb136))
                   have n9_ := Aside0.mk ((by rw [hg]; exact Nat.ne_of_gt (blk_lt (g := gb133) (o := .cells #[.int .i64 ((rd_T43 ((rd_T46 l0 ((rd_T48 l1 (ji33)).f0)).f1) ((rd_T48 l1 (ji33)).f2)).f0), .int .i64 ((rd_T43 ((rd_T46 l0 ((rd_T48 l1 (ji33)).f0)).f1) ((rd_T48 l1 (ji33)).f2)).f1), .int .i64 ((rd_T43 ((rd_T46 l0 ((rd_T48 l1 (ji33)).f0)).f1) ((rd_T48 l1 (ji33)).f2)).f2)] 43 (0, 0)) (nB BK133.out)) : gb136 ≠ gb133))
                   clear BK124; clear BK133; clear HB; have BK124 := n0_; have BK133 := n1_; have HB := n2_; have BK136 := n3_; have GW136 := n4_; have GE136 := n5_; have NB124_136 := n6_; have NB136_124 := n7_; have NB133_136 := n8_; have NB136_133 := n9_; clear n0_ n1_ n2_ n3_ n4_ n5_ n6_ n7_ n8_ n9_; clear hb hbox hg
                   refine hK.out _ _ ⟨(blk_cell BK124.out 0).trans rfl, (blk_cell BK124.out 1).trans rfl, (blk_cell BK124.out 2).trans rfl, (nC HB.out hw134_0 :), (nC HB.out hw134_1 :), (nC HB.out hw135_0 :), (nC HB.out hw135_1 :), (nC HB.out hw135_2 :)⟩ (fun hHeld => ?_)
                   clear hK K
                   refine norm_ (a' := ?_) ?_ ?_
                   rotate_left
                   · show Act.put _ (some 10) _ = _
                     simp only [Act.put, List.setIfInBounds_toArray, List.set_cons_zero, List.set_cons_succ, i64_w, i32_w]
                     rfl
                   refine one_ (i := 11) (N := none) #[T,T,T,T,T,T,T,T,T,T,T,T] rfl rfl (one_of HT_.out (by kernel_rfl)) (by decide) (fun K hK => ?_)
                   have hs70 : w69.cell? ⟨gb136, 0, none⟩ = some (.int .i64 0) := (blk_cell BK136.out 0).trans rfl
                   have hfs70 := blk_frozen BK136.out 0
                   have hns70_0 := NB124_136.out; have hns70_1 := NB133_136.out; have hms70_0 := NB136_124.out; have hms70_1 := NB136_133.out
                   have hs71 : w69.cell? ⟨gb136, 1, none⟩ = some (.int .i64 0) := (blk_cell BK136.out 1).trans rfl
                   have hfs71 := blk_frozen BK136.out 1
                   have hns71_0 := NB124_136.out; have hns71_1 := NB133_136.out; have hms71_0 := NB136_124.out; have hms71_1 := NB136_133.out
                   have hs72 : w69.cell? ⟨gb136, 2, none⟩ = some (.int .i64 0) := (blk_cell BK136.out 2).trans rfl
                   have hfs72 := blk_frozen BK136.out 2
                   have hns72_0 := NB124_136.out; have hns72_1 := NB133_136.out; have hms72_0 := NB136_124.out; have hms72_1 := NB136_133.out
                   refine skip_ (w1 := ?_) (by rfl) rfl ?_ ?_
                   rotate_left
                   · go_simp; rfl
                   refine hK.out _ _ ⟨((cell_far (p := ⟨gb136, _, none⟩) NB124_136.out _).trans (((cell_far (p := ⟨gb136, _, none⟩) NB124_136.out _).trans (((cell_far (p := ⟨gb136, _, none⟩) NB124_136.out _).trans (hHeld.1)))))), ((cell_far (p := ⟨gb136, _, none⟩) NB124_136.out _).trans (((cell_far (p := ⟨gb136, _, none⟩) NB124_136.out _).trans (((cell_far (p := ⟨gb136, _, none⟩) NB124_136.out _).trans (hHeld.2.1)))))), ((cell_far (p := ⟨gb136, _, none⟩) NB124_136.out _).trans (((cell_far (p := ⟨gb136, _, none⟩) NB124_136.out _).trans (((cell_far (p := ⟨gb136, _, none⟩) NB124_136.out _).trans (hHeld.2.2.1)))))), ((nF gb136 hw134_0 GW136.out).trans (((nF gb136 hw134_0 GW136.out).trans (((nF gb136 hw134_0 GW136.out).trans (hHeld.2.2.2.1)))))), ((nF gb136 hw134_1 GW136.out).trans (((nF gb136 hw134_1 GW136.out).trans (((nF gb136 hw134_1 GW136.out).trans (hHeld.2.2.2.2.1)))))), ((nF gb136 hw135_0 GW136.out).trans (((nF gb136 hw135_0 GW136.out).trans (((nF gb136 hw135_0 GW136.out).trans (hHeld.2.2.2.2.2.1)))))), ((nF gb136 hw135_1 GW136.out).trans (((nF gb136 hw135_1 GW136.out).trans (((nF gb136 hw135_1 GW136.out).trans (hHeld.2.2.2.2.2.2.1)))))), ((nF gb136 hw135_2 GW136.out).trans (((nF gb136 hw135_2 GW136.out).trans (((nF gb136 hw135_2 GW136.out).trans (hHeld.2.2.2.2.2.2.2))))))⟩ (fun hHeld => ?_)
                   clear hK K
                   refine done_ (done_of HT_.out (by kernel_rfl)) ?_
                   have hnb73 := NB133_124.out; have hnc73 := NB124_133.out; have hnb74 := NB133_136.out; have hnc74 := NB136_133.out
                   have hcz75_0 : w69.cell? ⟨gb133, 0, none⟩ = some (.int .i64 ((rd_T43 ((rd_T46 l0 ((rd_T48 l1 (ji33)).f0)).f1) ((rd_T48 l1 (ji33)).f2)).f0)) := (blk_cell BK133.out 0).trans rfl
                   have hcz75_1 : w69.cell? ⟨gb133, 1, none⟩ = some (.int .i64 ((rd_T43 ((rd_T46 l0 ((rd_T48 l1 (ji33)).f0)).f1) ((rd_T48 l1 (ji33)).f2)).f1)) := (blk_cell BK133.out 1).trans rfl
                   have hcz75_2 : w69.cell? ⟨gb133, 2, none⟩ = some (.int .i64 ((rd_T43 ((rd_T46 l0 ((rd_T48 l1 (ji33)).f0)).f1) ((rd_T48 l1 (ji33)).f2)).f2)) := (blk_cell BK133.out 2).trans rfl
                   have hfz75_0 := blk_frozen BK133.out 0
                   have hfz75_1 := blk_frozen BK133.out 1
                   have hfz75_2 := blk_frozen BK133.out 2
                   have hnb76 := NB136_124.out; have hnc76 := NB124_136.out
                   have hcz77_0 : w69.cell? ⟨gb136, 0, none⟩ = some (.int .i64 0) := (blk_cell BK136.out 0).trans rfl
                   have hcz77_1 : w69.cell? ⟨gb136, 1, none⟩ = some (.int .i64 0) := (blk_cell BK136.out 1).trans rfl
                   have hcz77_2 : w69.cell? ⟨gb136, 2, none⟩ = some (.int .i64 0) := (blk_cell BK136.out 2).trans rfl
                   have hfz77_0 := blk_frozen BK136.out 0
                   have hfz77_1 := blk_frozen BK136.out 1
                   have hfz77_2 := blk_frozen BK136.out 2
                   try go_wp2
                   go_roundg kj14
                   case measure => have := HJ3.out; have := HK2.out; have := HJ14.out; omega
                   case rel => exact ⟨(wrap64 (x7_2 + 1)), nS, H', ⟨by have := HJ3.out; have := HK2.out; have := HJ14.out; omega⟩, ⟨nH3 HB.out GE124.out GE133.out GE136.out⟩⟩
               · rw [if_neg c44] at H
                 have c44b0 : (((rd_T43 ((rd_T46 l0 ((rd_T48 l1 (ji33)).f0)).f1) ((rd_T48 l1 (ji33)).f2)).f0) == ((rd_T43 ((rd_T46 l0 ((rd_T48 l1 x7_2).f0)).f1) ((rd_T48 l1 x7_2).f1)).f0)) = false := beq_eq_false_iff_ne.mpr c44
                 have c44b1 : (((rd_T43 ((rd_T46 l0 ((rd_T48 l1 (ji33)).f0)).f1) ((rd_T48 l1 (ji33)).f2)).f0) != ((rd_T43 ((rd_T46 l0 ((rd_T48 l1 x7_2).f0)).f1) ((rd_T48 l1 x7_2).f1)).f0)) = true := bne_iff_ne.mpr c44
                 obtain rfl := Option.some.inj H
                 try go_wp2
                 have n0_ := Aside0.mk (blk_drew BK124.out)
                 have n1_ := Aside0.mk (below_drew1 HB.out)
                 clear BK124; clear HB; have BK124 := n0_; have HB := n1_; clear n0_ n1_
                 have p129 : 0 ≤ ((ji33) : Int) := of_decide_eq_true nQ
                 have q129 : (ji33) < (l1.length : Int) := of_decide_eq_true nQ
                 obtain ⟨ad129, e129, hx129_0, hx129_1, hx129_2⟩ := at_T48 HR1.out (ji33) p129 q129
                 have hw129_2 := hx129_2; have hw129_1 := hx129_1; have hw129_0 := hx129_0
                 obtain rfl : ad123 = ad129 := (by injection e129)
                 replace hx129_0 := (HB.out.cell (World.block_lt_of_cell? w _ hx129_0)).trans hx129_0
                 replace hx129_1 := (HB.out.cell (World.block_lt_of_cell? w _ hx129_1)).trans hx129_1
                 replace hx129_2 := (HB.out.cell (World.block_lt_of_cell? w _ hx129_2)).trans hx129_2
                 replace p129 := eq_true p129; replace q129 := eq_true q129
                 have p130 : 0 ≤ (((rd_T48 l1 (ji33)).f0) : Int) := of_decide_eq_true nQ
                 have q130 : ((rd_T48 l1 (ji33)).f0) < (l0.length : Int) := of_decide_eq_true nQ
                 obtain ⟨ad130, A130_1, c130_1, e130, hx130_0, hx130_1, hl130_1, hi130_1⟩ := at_T46 HR0.out ((rd_T48 l1 (ji33)).f0) p130 q130
                 have hw130_1 := hx130_1; have hw130_0 := hx130_0; cases e130
                 replace hx130_0 := (HB.out.cell (World.block_lt_of_cell? w _ hx130_0)).trans hx130_0
                 replace hx130_1 := (HB.out.cell (World.block_lt_of_cell? w _ hx130_1)).trans hx130_1
                 have HR130_1 := Aside0.mk hi130_1
                 have HC130_1 := Aside0.mk hl130_1
                 clear hi130_1 hl130_1; replace p130 := eq_true p130; replace q130 := eq_true q130
                 have p131 : 0 ≤ ((ji33) : Int) := of_decide_eq_true nQ
                 have q131 : (ji33) < (l1.length : Int) := of_decide_eq_true nQ
                 obtain ⟨ad131, e131, hx131_0, hx131_1, hx131_2⟩ := at_T48 HR1.out (ji33) p131 q131
                 have hw131_2 := hx131_2; have hw131_1 := hx131_1; have hw131_0 := hx131_0
                 obtain rfl : ad123 = ad131 := (by injection e131)
                 replace hx131_0 := (HB.out.cell (World.block_lt_of_cell? w _ hx131_0)).trans hx131_0
                 replace hx131_1 := (HB.out.cell (World.block_lt_of_cell? w _ hx131_1)).trans hx131_1
                 replace hx131_2 := (HB.out.cell (World.block_lt_of_cell? w _ hx131_2)).trans hx131_2
                 replace p131 := eq_true p131; replace q131 := eq_true q131
                 have p132 : 0 ≤ (((rd_T48 l1 (ji33)).f2) : Int) := of_decide_eq_true nQ
                 have q132 : ((rd_T48 l1 (ji33)).f2) < (((rd_T46 l0 ((rd_T48 l1 (ji33)).f0)).f1).length : Int) := of_decide_eq_true nQ
                 obtain ⟨ad132, e132, hx132_0, hx132_1, hx132_2⟩ := at_T43 HR130_1.out ((rd_T48 l1 (ji33)).f2) p132 q132
                 have hw132_2 := hx132_2; have hw132_1 := hx132_1; have hw132_0 := hx132_0; cases e132
                 replace hx132_0 := (HB.out.cell (World.block_lt_of_cell? w _ hx132_0)).trans hx132_0
                 replace hx132_1 := (HB.out.cell (World.block_lt_of_cell? w _ hx132_1)).trans hx132_1
                 replace hx132_2 := (HB.out.cell (World.block_lt_of_cell? w _ hx132_2)).trans hx132_2
                 replace p132 := eq_true p132; replace q132 := eq_true q132
                 refine start_ (n := 20) (S := fun w' => w'.cell? (ad123.add (((ji33)).toNat * 3)) = some (.int .i64 ((rd_T48 l1 (ji33)).f0)) ∧ w'.cell? ⟨(ad123.add (((ji33)).toNat * 3)).block, (ad123.add (((ji33)).toNat * 3)).off + 1, none⟩ = some (.int .i64 ((rd_T48 l1 (ji33)).f1)) ∧ w'.cell? ⟨(ad123.add (((ji33)).toNat * 3)).block, (ad123.add (((ji33)).toNat * 3)).off + 2, none⟩ = some (.int .i64 ((rd_T48 l1 (ji33)).f2)) ∧ w'.cell? (ad130.add ((((rd_T48 l1 (ji33)).f0)).toNat * 2)) = some (.string ((rd_T46 l0 ((rd_T48 l1 (ji33)).f0)).f0)) ∧ w'.cell? ⟨(ad130.add ((((rd_T48 l1 (ji33)).f0)).toNat * 2)).block, (ad130.add ((((rd_T48 l1 (ji33)).f0)).toNat * 2)).off + 1, none⟩ = some (.slice (some ad132) ((rd_T46 l0 ((rd_T48 l1 (ji33)).f0)).f1).length c130_1) ∧ w'.cell? (ad123.add (((ji33)).toNat * 3)) = some (.int .i64 ((rd_T48 l1 (ji33)).f0)) ∧ w'.cell? ⟨(ad123.add (((ji33)).toNat * 3)).block, (ad123.add (((ji33)).toNat * 3)).off + 1, none⟩ = some (.int .i64 ((rd_T48 l1 (ji33)).f1)) ∧ w'.cell? ⟨(ad123.add (((ji33)).toNat * 3)).block, (ad123.add (((ji33)).toNat * 3)).off + 2, none⟩ = some (.int .i64 ((rd_T48 l1 (ji33)).f2)) ∧ w'.cell? (ad132.add ((((rd_T48 l1 (ji33)).f2)).toNat * 3)) = some (.int .i64 ((rd_T43 ((rd_T46 l0 ((rd_T48 l1 (ji33)).f0)).f1) ((rd_T48 l1 (ji33)).f2)).f0)) ∧ w'.cell? ⟨(ad132.add ((((rd_T48 l1 (ji33)).f2)).toNat * 3)).block, (ad132.add ((((rd_T48 l1 (ji33)).f2)).toNat * 3)).off + 1, none⟩ = some (.int .i64 ((rd_T43 ((rd_T46 l0 ((rd_T48 l1 (ji33)).f0)).f1) ((rd_T48 l1 (ji33)).f2)).f1)) ∧ w'.cell? ⟨(ad132.add ((((rd_T48 l1 (ji33)).f2)).toNat * 3)).block, (ad132.add ((((rd_T48 l1 (ji33)).f2)).toNat * 3)).off + 2, none⟩ = some (.int .i64 ((rd_T43 ((rd_T46 l0 ((rd_T48 l1 (ji33)).f0)).f1) ((rd_T48 l1 (ji33)).f2)).f2))) (ds := []) #[F,F,F,F,F,F,F,F,F,F,F,F,F,F,F,F,F,F,F,F] (by kernel_rfl) rfl rfl ⟨(nC HB.out hw129_0 :), (nC HB.out hw129_1 :), (nC HB.out hw129_2 :), (nC HB.out hw130_0 :), (nC HB.out hw130_1 :), (nC HB.out hw131_0 :), (nC HB.out hw131_1 :), (nC HB.out hw131_2 :), (nC HB.out hw132_0 :), (nC HB.out hw132_1 :), (nC HB.out hw132_2 :)⟩ (fun hHeld => ?_); refine with_tabW spec_LegsOk.tab10 spec_LegsOk.bits10 (fun HT_ HW_ => ?_)
                 generalize wc.drew = w78 at BK124 HB HR130_1 hx129_0 hx129_1 hx129_2 hx130_0 hx130_1 hx131_0 hx131_1 hx131_2 hx132_0 hx132_1 hx132_2 hHeld ⊢
                 refine pU 0 (some 66) #[T,F,F,F,F,F,F,F,F,F,F,F,F,F,F,F,F,F,F,F] rfl rfl HT_.out ?_
                 refine pU 1 (some 67) #[T,T,F,F,F,F,F,F,F,F,F,F,F,F,F,F,F,F,F,F] rfl rfl HT_.out ?_
                 refine pU 2 (some 68) #[T,T,T,F,F,F,F,F,F,F,F,F,F,F,F,F,F,F,F,F] rfl rfl HT_.out ?_
                 refine pU 3 (some 69) #[T,T,T,T,F,F,F,F,F,F,F,F,F,F,F,F,F,F,F,F] rfl rfl HT_.out ?_
                 refine pU 4 (some 70) #[T,T,T,T,T,F,F,F,F,F,F,F,F,F,F,F,F,F,F,F] rfl rfl HT_.out ?_
                 refine pU 5 (some 71) #[T,T,T,T,T,T,F,F,F,F,F,F,F,F,F,F,F,F,F,F] rfl rfl HT_.out ?_
                 refine pU 10 (some 76) #[T,T,T,T,T,T,F,F,F,F,T,F,F,F,F,F,F,F,F,F] rfl rfl HT_.out ?_
                 refine pU 11 (some 77) #[T,T,T,T,T,T,F,F,F,F,T,T,F,F,F,F,F,F,F,F] rfl rfl HT_.out ?_
                 refine pU 12 (some 78) #[T,T,T,T,T,T,F,F,F,F,T,T,T,F,F,F,F,F,F,F] rfl rfl HT_.out ?_
                 refine pU 13 (some 79) #[T,T,T,T,T,T,F,F,F,F,T,T,T,T,F,F,F,F,F,F] rfl rfl HT_.out ?_
                 refine pU 14 (some 80) #[T,T,T,T,T,T,F,F,F,F,T,T,T,T,T,F,F,F,F,F] rfl rfl HT_.out ?_
                 refine tU11 6 (some 72) #[T,T,T,T,T,T,T,F,F,F,T,T,T,T,T,F,F,F,F,F] rfl rfl HT_.out HW_.out hHeld ?_
                 refine pU 7 (some 73) #[T,T,T,T,T,T,T,T,F,F,T,T,T,T,T,F,F,F,F,F] rfl rfl HT_.out ?_
                 refine pU 8 (some 74) #[T,T,T,T,T,T,T,T,T,F,T,T,T,T,T,F,F,F,F,F] rfl rfl HT_.out ?_
                 refine tU11 9 (some 75) #[T,T,T,T,T,T,T,T,T,T,T,T,T,T,T,F,F,F,F,F] rfl rfl HT_.out HW_.out hHeld ?_
                 refine tU11 15 (some 81) #[T,T,T,T,T,T,T,T,T,T,T,T,T,T,T,T,F,F,F,F] rfl rfl HT_.out HW_.out hHeld ?_
                 refine pU 16 (some 82) #[T,T,T,T,T,T,T,T,T,T,T,T,T,T,T,T,T,F,F,F] rfl rfl HT_.out ?_
                 refine tU11 17 (some 83) #[T,T,T,T,T,T,T,T,T,T,T,T,T,T,T,T,T,T,F,F] rfl rfl HT_.out HW_.out hHeld ?_
                 refine one_ (i := 18) (N := some 9) #[T,T,T,T,T,T,T,T,T,T,T,T,T,T,T,T,T,T,T,F] rfl rfl (one_of HT_.out (by kernel_rfl)) (by decide) (fun K hK => ?_)
                 refine box_step ?hg (N := 9) ?hd (cs := #[.int .i64 0, .int .i64 0, .int .i64 0]) (t := 43) ?hr ?_; (case hd => rfl); (case hg => rfl); (case hr => first | (go_simp; done) | (go_simp; rfl))
                 intro gb133 hg w79 hbox hb
                 have n0_ := Aside0.mk (blk_below (g := gb124) (o := .cells #[.int .i64 ((rd_T48 l1 x7_2).f0), .int .i64 ((rd_T48 l1 x7_2).f1), .int .i64 ((rd_T48 l1 x7_2).f2)] 48 (0, 0)) (nB BK124.out) hb)
                 have n1_ := Aside0.mk (below_step (nH1 HB.out GE124.out) hb)
                 have n2_ := Aside0.mk (hbox)
                 have n3_ := Aside0.mk ((by rw [hg]; exact (below_size (nH1 HB.out GE124.out)) : w.heap.size ≤ gb133))
                 have n4_ := Aside0.mk ((by rw [hg]; exact (below_size (nH1 HB.out GE124.out)) : w.heap.size ≤ gb133))
                 have n5_ := Aside0.mk ((by rw [hg]; exact Nat.ne_of_lt (blk_lt (g := gb124) (o := .cells #[.int .i64 ((rd_T48 l1 x7_2).f0), .int .i64 ((rd_T48 l1 x7_2).f1), .int .i64 ((rd_T48 l1 x7_2).f2)] 48 (0, 0)) (nB BK124.out)) : gb124 ≠ gb133))
                 have n6_ := Aside0.mk ((by rw [hg]; exact Nat.ne_of_gt (blk_lt (g := gb124) (o := .cells #[.int .i64 ((rd_T48 l1 x7_2).f0), .int .i64 ((rd_T48 l1 x7_2).f1), .int .i64 ((rd_T48 l1 x7_2).f2)] 48 (0, 0)) (nB BK124.out)) : gb133 ≠ gb124))
                 clear BK124; clear HB; have BK124 := n0_; have HB := n1_; have BK133 := n2_; have GW133 := n3_; have GE133 := n4_; have NB124_133 := n5_; have NB133_124 := n6_; clear n0_ n1_ n2_ n3_ n4_ n5_ n6_; clear hb hbox hg
                 refine hK.out _ _ ⟨(nC HB.out hw129_0 :), (nC HB.out hw129_1 :), (nC HB.out hw129_2 :), (nC HB.out hw130_0 :), (nC HB.out hw130_1 :), (nC HB.out hw131_0 :), (nC HB.out hw131_1 :), (nC HB.out hw131_2 :), (nC HB.out hw132_0 :), (nC HB.out hw132_1 :), (nC HB.out hw132_2 :)⟩ (fun hHeld => ?_)
                 clear hK K
                 refine norm_ (a' := ?_) ?_ ?_
                 rotate_left
                 · show Act.put _ (some 9) _ = _
                   simp only [Act.put, List.setIfInBounds_toArray, List.set_cons_zero, List.set_cons_succ, i64_w, i32_w]
                   rfl
                 refine one_ (i := 19) (N := none) #[T,T,T,T,T,T,T,T,T,T,T,T,T,T,T,T,T,T,T,T] rfl rfl (one_of HT_.out (by kernel_rfl)) (by decide) (fun K hK => ?_)
                 have hs80 : w79.cell? ⟨gb133, 0, none⟩ = some (.int .i64 0) := (blk_cell BK133.out 0).trans rfl
                 have hfs80 := blk_frozen BK133.out 0
                 have hns80_0 := NB124_133.out; have hms80_0 := NB133_124.out
                 have hs81 : w79.cell? ⟨gb133, 1, none⟩ = some (.int .i64 0) := (blk_cell BK133.out 1).trans rfl
                 have hfs81 := blk_frozen BK133.out 1
                 have hns81_0 := NB124_133.out; have hms81_0 := NB133_124.out
                 have hs82 : w79.cell? ⟨gb133, 2, none⟩ = some (.int .i64 0) := (blk_cell BK133.out 2).trans rfl
                 have hfs82 := blk_frozen BK133.out 2
                 have hns82_0 := NB124_133.out; have hms82_0 := NB133_124.out
                 refine skip_ (w1 := ?_) (by rfl) rfl ?_ ?_
                 rotate_left
                 · go_simp; rfl
                 refine hK.out _ _ ⟨((nF gb133 hw129_0 GW133.out).trans (((nF gb133 hw129_0 GW133.out).trans (((nF gb133 hw129_0 GW133.out).trans (hHeld.1)))))), ((nF gb133 hw129_1 GW133.out).trans (((nF gb133 hw129_1 GW133.out).trans (((nF gb133 hw129_1 GW133.out).trans (hHeld.2.1)))))), ((nF gb133 hw129_2 GW133.out).trans (((nF gb133 hw129_2 GW133.out).trans (((nF gb133 hw129_2 GW133.out).trans (hHeld.2.2.1)))))), ((nF gb133 hw130_0 GW133.out).trans (((nF gb133 hw130_0 GW133.out).trans (((nF gb133 hw130_0 GW133.out).trans (hHeld.2.2.2.1)))))), ((nF gb133 hw130_1 GW133.out).trans (((nF gb133 hw130_1 GW133.out).trans (((nF gb133 hw130_1 GW133.out).trans (hHeld.2.2.2.2.1)))))), ((nF gb133 hw131_0 GW133.out).trans (((nF gb133 hw131_0 GW133.out).trans (((nF gb133 hw131_0 GW133.out).trans (hHeld.2.2.2.2.2.1)))))), ((nF gb133 hw131_1 GW133.out).trans (((nF gb133 hw131_1 GW133.out).trans (((nF gb133 hw131_1 GW133.out).trans (hHeld.2.2.2.2.2.2.1)))))), ((nF gb133 hw131_2 GW133.out).trans (((nF gb133 hw131_2 GW133.out).trans (((nF gb133 hw131_2 GW133.out).trans (hHeld.2.2.2.2.2.2.2.1)))))), ((nF gb133 hw132_0 GW133.out).trans (((nF gb133 hw132_0 GW133.out).trans (((nF gb133 hw132_0 GW133.out).trans (hHeld.2.2.2.2.2.2.2.2.1)))))), ((nF gb133 hw132_1 GW133.out).trans (((nF gb133 hw132_1 GW133.out).trans (((nF gb133 hw132_1 GW133.out).trans (hHeld.2.2.2.2.2.2.2.2.2.1)))))), ((nF gb133 hw132_2 GW133.out).trans (((nF gb133 hw132_2 GW133.out).trans (((nF gb133 hw132_2 GW133.out).trans (hHeld.2.2.2.2.2.2.2.2.2.2))))))⟩ (fun hHeld => ?_)
                 clear hK K
                 refine done_ (done_of HT_.out (by kernel_rfl)) ?_
                 try go_wp2
                 have n0_ : Aside0 ((((w79.setCell ⟨gb133, 0, none⟩ (.int .i64 ((rd_T43 ((rd_T46 l0 ((rd_T48 l1 (ji33)).f0)).f1) ((rd_T48 l1 (ji33)).f2)).f0))).setCell ⟨gb133, 1, none⟩ (.int .i64 ((rd_T43 ((rd_T46 l0 ((rd_T48 l1 (ji33)).f0)).f1) ((rd_T48 l1 (ji33)).f2)).f1))).setCell ⟨gb133, 2, none⟩ (.int .i64 ((rd_T43 ((rd_T46 l0 ((rd_T48 l1 (ji33)).f0)).f1) ((rd_T48 l1 (ji33)).f2)).f2))).heap[gb124]? = some (.cells #[.int .i64 ((rd_T48 l1 x7_2).f0), .int .i64 ((rd_T48 l1 x7_2).f1), .int .i64 ((rd_T48 l1 x7_2).f2)] 48 (0, 0))) := ⟨by (with_reducible repeat (first | refine blk_drewN ?_ _ | refine blk_drew ?_ | refine blk_alloc ?_ _)); refine blk_far ?_ NB124_133.out _; (with_reducible repeat (first | refine blk_drewN ?_ _ | refine blk_drew ?_ | refine blk_alloc ?_ _)); refine blk_far ?_ NB124_133.out _; (with_reducible repeat (first | refine blk_drewN ?_ _ | refine blk_drew ?_ | refine blk_alloc ?_ _)); refine blk_far ?_ NB124_133.out _; (with_reducible repeat (first | refine blk_drewN ?_ _ | refine blk_drew ?_ | refine blk_alloc ?_ _)); exact BK124.out⟩
                 have n1_ : Aside0 ((((w79.setCell ⟨gb133, 0, none⟩ (.int .i64 ((rd_T43 ((rd_T46 l0 ((rd_T48 l1 (ji33)).f0)).f1) ((rd_T48 l1 (ji33)).f2)).f0))).setCell ⟨gb133, 1, none⟩ (.int .i64 ((rd_T43 ((rd_T46 l0 ((rd_T48 l1 (ji33)).f0)).f1) ((rd_T48 l1 (ji33)).f2)).f1))).setCell ⟨gb133, 2, none⟩ (.int .i64 ((rd_T43 ((rd_T46 l0 ((rd_T48 l1 (ji33)).f0)).f1) ((rd_T48 l1 (ji33)).f2)).f2))).heap[gb133]? = some (.cells #[.int .i64 ((rd_T43 ((rd_T46 l0 ((rd_T48 l1 (ji33)).f0)).f1) ((rd_T48 l1 (ji33)).f2)).f0), .int .i64 ((rd_T43 ((rd_T46 l0 ((rd_T48 l1 (ji33)).f0)).f1) ((rd_T48 l1 (ji33)).f2)).f1), .int .i64 ((rd_T43 ((rd_T46 l0 ((rd_T48 l1 (ji33)).f0)).f1) ((rd_T48 l1 (ji33)).f2)).f2)] 43 (0, 0))) := ⟨by (with_reducible repeat (first | refine blk_drewN ?_ _ | refine blk_drew ?_ | refine blk_alloc ?_ _)); refine blk_put (cs := #[.int .i64 ((rd_T43 ((rd_T46 l0 ((rd_T48 l1 (ji33)).f0)).f1) ((rd_T48 l1 (ji33)).f2)).f0), .int .i64 ((rd_T43 ((rd_T46 l0 ((rd_T48 l1 (ji33)).f0)).f1) ((rd_T48 l1 (ji33)).f2)).f1), .int .i64 0]) ?_ 2 _ rfl; (with_reducible repeat (first | refine blk_drewN ?_ _ | refine blk_drew ?_ | refine blk_alloc ?_ _)); refine blk_put (cs := #[.int .i64 ((rd_T43 ((rd_T46 l0 ((rd_T48 l1 (ji33)).f0)).f1) ((rd_T48 l1 (ji33)).f2)).f0), .int .i64 0, .int .i64 0]) ?_ 1 _ rfl; (with_reducible repeat (first | refine blk_drewN ?_ _ | refine blk_drew ?_ | refine blk_alloc ?_ _)); refine blk_put (cs := #[.int .i64 0, .int .i64 0, .int .i64 0]) ?_ 0 _ rfl; (with_reducible repeat (first | refine blk_drewN ?_ _ | refine blk_drew ?_ | refine blk_alloc ?_ _)); exact BK133.out⟩
                 have n2_ : Aside0 (Below w.heap.size w (((w79.setCell ⟨gb133, 0, none⟩ (.int .i64 ((rd_T43 ((rd_T46 l0 ((rd_T48 l1 (ji33)).f0)).f1) ((rd_T48 l1 (ji33)).f2)).f0))).setCell ⟨gb133, 1, none⟩ (.int .i64 ((rd_T43 ((rd_T46 l0 ((rd_T48 l1 (ji33)).f0)).f1) ((rd_T48 l1 (ji33)).f2)).f1))).setCell ⟨gb133, 2, none⟩ (.int .i64 ((rd_T43 ((rd_T46 l0 ((rd_T48 l1 (ji33)).f0)).f1) ((rd_T48 l1 (ji33)).f2)).f2)))) := ⟨nH2 HB.out GE124.out GE133.out⟩
                 (try clear BK124); (try clear BK133); (try clear HB)
                 generalize (((w79.setCell ⟨gb133, 0, none⟩ (.int .i64 ((rd_T43 ((rd_T46 l0 ((rd_T48 l1 (ji33)).f0)).f1) ((rd_T48 l1 (ji33)).f2)).f0))).setCell ⟨gb133, 1, none⟩ (.int .i64 ((rd_T43 ((rd_T46 l0 ((rd_T48 l1 (ji33)).f0)).f1) ((rd_T48 l1 (ji33)).f2)).f1))).setCell ⟨gb133, 2, none⟩ (.int .i64 ((rd_T43 ((rd_T46 l0 ((rd_T48 l1 (ji33)).f0)).f1) ((rd_T48 l1 (ji33)).f2)).f2))) = w83 at n0_ n1_ n2_ ⊢
                 have BK124 := n0_; have BK133 := n1_; have HB := n2_; clear n0_ n1_ n2_
                 have n0_ := Aside0.mk (blk_drew BK124.out)
                 have n1_ := Aside0.mk (blk_drew BK133.out)
                 have n2_ := Aside0.mk (below_drew1 HB.out)
                 clear BK124; clear BK133; clear HB; have BK124 := n0_; have BK133 := n1_; have HB := n2_; clear n0_ n1_ n2_
                 have p134 : 0 ≤ (((rd_T48 l1 x7_2).f0) : Int) := of_decide_eq_true nQ
                 have q134 : ((rd_T48 l1 x7_2).f0) < (l0.length : Int) := of_decide_eq_true nQ
                 obtain ⟨ad134, A134_1, c134_1, e134, hx134_0, hx134_1, hl134_1, hi134_1⟩ := at_T46 HR0.out ((rd_T48 l1 x7_2).f0) p134 q134
                 have hw134_1 := hx134_1; have hw134_0 := hx134_0
                 obtain rfl : ad130 = ad134 := (by injection e134)
                 replace hx134_0 := (HB.out.cell (World.block_lt_of_cell? w _ hx134_0)).trans hx134_0
                 replace hx134_1 := (HB.out.cell (World.block_lt_of_cell? w _ hx134_1)).trans hx134_1
                 have HR134_1 := Aside0.mk hi134_1
                 have HC134_1 := Aside0.mk hl134_1
                 clear hi134_1 hl134_1; replace p134 := eq_true p134; replace q134 := eq_true q134
                 have p135 : 0 ≤ (((rd_T48 l1 x7_2).f1) : Int) := of_decide_eq_true nQ
                 have q135 : ((rd_T48 l1 x7_2).f1) < (((rd_T46 l0 ((rd_T48 l1 x7_2).f0)).f1).length : Int) := of_decide_eq_true nQ
                 obtain ⟨ad135, e135, hx135_0, hx135_1, hx135_2⟩ := at_T43 HR134_1.out ((rd_T48 l1 x7_2).f1) p135 q135
                 have hw135_2 := hx135_2; have hw135_1 := hx135_1; have hw135_0 := hx135_0; cases e135
                 replace hx135_0 := (HB.out.cell (World.block_lt_of_cell? w _ hx135_0)).trans hx135_0
                 replace hx135_1 := (HB.out.cell (World.block_lt_of_cell? w _ hx135_1)).trans hx135_1
                 replace hx135_2 := (HB.out.cell (World.block_lt_of_cell? w _ hx135_2)).trans hx135_2
                 replace p135 := eq_true p135; replace q135 := eq_true q135
                 refine start_ (n := 12) (S := fun w' => w'.cell? ⟨gb124, 0, none⟩ = some (.int .i64 ((rd_T48 l1 x7_2).f0)) ∧ w'.cell? ⟨gb124, 1, none⟩ = some (.int .i64 ((rd_T48 l1 x7_2).f1)) ∧ w'.cell? ⟨gb124, 2, none⟩ = some (.int .i64 ((rd_T48 l1 x7_2).f2)) ∧ w'.cell? (ad130.add ((((rd_T48 l1 x7_2).f0)).toNat * 2)) = some (.string ((rd_T46 l0 ((rd_T48 l1 x7_2).f0)).f0)) ∧ w'.cell? ⟨(ad130.add ((((rd_T48 l1 x7_2).f0)).toNat * 2)).block, (ad130.add ((((rd_T48 l1 x7_2).f0)).toNat * 2)).off + 1, none⟩ = some (.slice (some ad135) ((rd_T46 l0 ((rd_T48 l1 x7_2).f0)).f1).length c134_1) ∧ w'.cell? (ad135.add ((((rd_T48 l1 x7_2).f1)).toNat * 3)) = some (.int .i64 ((rd_T43 ((rd_T46 l0 ((rd_T48 l1 x7_2).f0)).f1) ((rd_T48 l1 x7_2).f1)).f0)) ∧ w'.cell? ⟨(ad135.add ((((rd_T48 l1 x7_2).f1)).toNat * 3)).block, (ad135.add ((((rd_T48 l1 x7_2).f1)).toNat * 3)).off + 1, none⟩ = some (.int .i64 ((rd_T43 ((rd_T46 l0 ((rd_T48 l1 x7_2).f0)).f1) ((rd_T48 l1 x7_2).f1)).f1)) ∧ w'.cell? ⟨(ad135.add ((((rd_T48 l1 x7_2).f1)).toNat * 3)).block, (ad135.add ((((rd_T48 l1 x7_2).f1)).toNat * 3)).off + 2, none⟩ = some (.int .i64 ((rd_T43 ((rd_T46 l0 ((rd_T48 l1 x7_2).f0)).f1) ((rd_T48 l1 x7_2).f1)).f2))) (ds := []) #[F,F,F,F,F,F,F,F,F,F,F,F] (by kernel_rfl) rfl rfl ⟨(blk_cell BK124.out 0).trans rfl, (blk_cell BK124.out 1).trans rfl, (blk_cell BK124.out 2).trans rfl, (nC HB.out hw134_0 :), (nC HB.out hw134_1 :), (nC HB.out hw135_0 :), (nC HB.out hw135_1 :), (nC HB.out hw135_2 :)⟩ (fun hHeld => ?_); refine with_tabW spec_LegsOk.tab11 spec_LegsOk.bits11 (fun HT_ HW_ => ?_)
                 generalize w83.drew = w84 at BK124 BK133 HB HR134_1 hx134_0 hx134_1 hx135_0 hx135_1 hx135_2 hHeld ⊢
                 refine pU 0 (some 84) #[T,F,F,F,F,F,F,F,F,F,F,F] rfl rfl HT_.out ?_
                 refine pU 1 (some 85) #[T,T,F,F,F,F,F,F,F,F,F,F] rfl rfl HT_.out ?_
                 refine pU 6 (some 90) #[T,T,F,F,F,F,T,F,F,F,F,F] rfl rfl HT_.out ?_
                 refine tU8 2 (some 86) #[T,T,T,F,F,F,T,F,F,F,F,F] rfl rfl HT_.out HW_.out hHeld ?_
                 refine pU 3 (some 87) #[T,T,T,T,F,F,T,F,F,F,F,F] rfl rfl HT_.out ?_
                 refine pU 4 (some 88) #[T,T,T,T,T,F,T,F,F,F,F,F] rfl rfl HT_.out ?_
                 refine tU8 5 (some 89) #[T,T,T,T,T,T,T,F,F,F,F,F] rfl rfl HT_.out HW_.out hHeld ?_
                 refine tU8 7 (some 91) #[T,T,T,T,T,T,T,T,F,F,F,F] rfl rfl HT_.out HW_.out hHeld ?_
                 refine pU 8 (some 92) #[T,T,T,T,T,T,T,T,T,F,F,F] rfl rfl HT_.out ?_
                 refine tU8 9 (some 93) #[T,T,T,T,T,T,T,T,T,T,F,F] rfl rfl HT_.out HW_.out hHeld ?_
                 refine one_ (i := 10) (N := some 10) #[T,T,T,T,T,T,T,T,T,T,T,F] rfl rfl (one_of HT_.out (by kernel_rfl)) (by decide) (fun K hK => ?_)
                 refine box_step ?hg (N := 10) ?hd (cs := #[.int .i64 0, .int .i64 0, .int .i64 0]) (t := 43) ?hr ?_; (case hd => rfl); (case hg => rfl); (case hr => first | (go_simp; done) | (go_simp; rfl))
                 intro gb136 hg w85 hbox hb
                 have n0_ := Aside0.mk (blk_below (g := gb124) (o := .cells #[.int .i64 ((rd_T48 l1 x7_2).f0), .int .i64 ((rd_T48 l1 x7_2).f1), .int .i64 ((rd_T48 l1 x7_2).f2)] 48 (0, 0)) (nB BK124.out) hb)
                 have n1_ := Aside0.mk (blk_below (g := gb133) (o := .cells #[.int .i64 ((rd_T43 ((rd_T46 l0 ((rd_T48 l1 (ji33)).f0)).f1) ((rd_T48 l1 (ji33)).f2)).f0), .int .i64 ((rd_T43 ((rd_T46 l0 ((rd_T48 l1 (ji33)).f0)).f1) ((rd_T48 l1 (ji33)).f2)).f1), .int .i64 ((rd_T43 ((rd_T46 l0 ((rd_T48 l1 (ji33)).f0)).f1) ((rd_T48 l1 (ji33)).f2)).f2)] 43 (0, 0)) (nB BK133.out) hb)
                 have n2_ := Aside0.mk (below_step (nH2 HB.out GE124.out GE133.out) hb)
                 have n3_ := Aside0.mk (hbox)
                 have n4_ := Aside0.mk ((by rw [hg]; exact (below_size (nH2 HB.out GE124.out GE133.out)) : w.heap.size ≤ gb136))
                 have n5_ := Aside0.mk ((by rw [hg]; exact (below_size (nH2 HB.out GE124.out GE133.out)) : w.heap.size ≤ gb136))
                 have n6_ := Aside0.mk ((by rw [hg]; exact Nat.ne_of_lt (blk_lt (g := gb124) (o := .cells #[.int .i64 ((rd_T48 l1 x7_2).f0), .int .i64 ((rd_T48 l1 x7_2).f1), .int .i64 ((rd_T48 l1 x7_2).f2)] 48 (0, 0)) (nB BK124.out)) : gb124 ≠ gb136))
                 have n7_ := Aside0.mk ((by rw [hg]; exact Nat.ne_of_gt (blk_lt (g := gb124) (o := .cells #[.int .i64 ((rd_T48 l1 x7_2).f0), .int .i64 ((rd_T48 l1 x7_2).f1), .int .i64 ((rd_T48 l1 x7_2).f2)] 48 (0, 0)) (nB BK124.out)) : gb136 ≠ gb124))
                 have n8_ := Aside0.mk ((by rw [hg]; exact Nat.ne_of_lt (blk_lt (g := gb133) (o := .cells #[.int .i64 ((rd_T43 ((rd_T46 l0 ((rd_T48 l1 (ji33)).f0)).f1) ((rd_T48 l1 (ji33)).f2)).f0), .int .i64 ((rd_T43 ((rd_T46 l0 ((rd_T48 l1 (ji33)).f0)).f1) ((rd_T48 l1 (ji33)).f2)).f1), .int .i64 ((rd_T43 ((rd_T46 l0 ((rd_T48 l1 (ji33)).f0)).f1) ((rd_T48 l1 (ji33)).f2)).f2)] 43 (0, 0)) (nB BK133.out)) : gb133 ≠ gb136))
                 have n9_ := Aside0.mk ((by rw [hg]; exact Nat.ne_of_gt (blk_lt (g := gb133) (o := .cells #[.int .i64 ((rd_T43 ((rd_T46 l0 ((rd_T48 l1 (ji33)).f0)).f1) ((rd_T48 l1 (ji33)).f2)).f0), .int .i64 ((rd_T43 ((rd_T46 l0 ((rd_T48 l1 (ji33)).f0)).f1) ((rd_T48 l1 (ji33)).f2)).f1), .int .i64 ((rd_T43 ((rd_T46 l0 ((rd_T48 l1 (ji33)).f0)).f1) ((rd_T48 l1 (ji33)).f2)).f2)] 43 (0, 0)) (nB BK133.out)) : gb136 ≠ gb133))
                 clear BK124; clear BK133; clear HB; have BK124 := n0_; have BK133 := n1_; have HB := n2_; have BK136 := n3_; have GW136 := n4_; have GE136 := n5_; have NB124_136 := n6_; have NB136_124 := n7_; have NB133_136 := n8_; have NB136_133 := n9_; clear n0_ n1_ n2_ n3_ n4_ n5_ n6_ n7_ n8_ n9_; clear hb hbox hg
                 refine hK.out _ _ ⟨(blk_cell BK124.out 0).trans rfl, (blk_cell BK124.out 1).trans rfl, (blk_cell BK124.out 2).trans rfl, (nC HB.out hw134_0 :), (nC HB.out hw134_1 :), (nC HB.out hw135_0 :), (nC HB.out hw135_1 :), (nC HB.out hw135_2 :)⟩ (fun hHeld => ?_)
                 clear hK K
                 refine norm_ (a' := ?_) ?_ ?_
                 rotate_left
                 · show Act.put _ (some 10) _ = _
                   simp only [Act.put, List.setIfInBounds_toArray, List.set_cons_zero, List.set_cons_succ, i64_w, i32_w]
                   rfl
                 refine one_ (i := 11) (N := none) #[T,T,T,T,T,T,T,T,T,T,T,T] rfl rfl (one_of HT_.out (by kernel_rfl)) (by decide) (fun K hK => ?_)
                 have hs86 : w85.cell? ⟨gb136, 0, none⟩ = some (.int .i64 0) := (blk_cell BK136.out 0).trans rfl
                 have hfs86 := blk_frozen BK136.out 0
                 have hns86_0 := NB124_136.out; have hns86_1 := NB133_136.out; have hms86_0 := NB136_124.out; have hms86_1 := NB136_133.out
                 have hs87 : w85.cell? ⟨gb136, 1, none⟩ = some (.int .i64 0) := (blk_cell BK136.out 1).trans rfl
                 have hfs87 := blk_frozen BK136.out 1
                 have hns87_0 := NB124_136.out; have hns87_1 := NB133_136.out; have hms87_0 := NB136_124.out; have hms87_1 := NB136_133.out
                 have hs88 : w85.cell? ⟨gb136, 2, none⟩ = some (.int .i64 0) := (blk_cell BK136.out 2).trans rfl
                 have hfs88 := blk_frozen BK136.out 2
                 have hns88_0 := NB124_136.out; have hns88_1 := NB133_136.out; have hms88_0 := NB136_124.out; have hms88_1 := NB136_133.out
                 refine skip_ (w1 := ?_) (by rfl) rfl ?_ ?_
                 rotate_left
                 · go_simp; rfl
                 refine hK.out _ _ ⟨((cell_far (p := ⟨gb136, _, none⟩) NB124_136.out _).trans (((cell_far (p := ⟨gb136, _, none⟩) NB124_136.out _).trans (((cell_far (p := ⟨gb136, _, none⟩) NB124_136.out _).trans (hHeld.1)))))), ((cell_far (p := ⟨gb136, _, none⟩) NB124_136.out _).trans (((cell_far (p := ⟨gb136, _, none⟩) NB124_136.out _).trans (((cell_far (p := ⟨gb136, _, none⟩) NB124_136.out _).trans (hHeld.2.1)))))), ((cell_far (p := ⟨gb136, _, none⟩) NB124_136.out _).trans (((cell_far (p := ⟨gb136, _, none⟩) NB124_136.out _).trans (((cell_far (p := ⟨gb136, _, none⟩) NB124_136.out _).trans (hHeld.2.2.1)))))), ((nF gb136 hw134_0 GW136.out).trans (((nF gb136 hw134_0 GW136.out).trans (((nF gb136 hw134_0 GW136.out).trans (hHeld.2.2.2.1)))))), ((nF gb136 hw134_1 GW136.out).trans (((nF gb136 hw134_1 GW136.out).trans (((nF gb136 hw134_1 GW136.out).trans (hHeld.2.2.2.2.1)))))), ((nF gb136 hw135_0 GW136.out).trans (((nF gb136 hw135_0 GW136.out).trans (((nF gb136 hw135_0 GW136.out).trans (hHeld.2.2.2.2.2.1)))))), ((nF gb136 hw135_1 GW136.out).trans (((nF gb136 hw135_1 GW136.out).trans (((nF gb136 hw135_1 GW136.out).trans (hHeld.2.2.2.2.2.2.1)))))), ((nF gb136 hw135_2 GW136.out).trans (((nF gb136 hw135_2 GW136.out).trans (((nF gb136 hw135_2 GW136.out).trans (hHeld.2.2.2.2.2.2.2))))))⟩ (fun hHeld => ?_)
                 clear hK K
                 refine done_ (done_of HT_.out (by kernel_rfl)) ?_
                 have hnb89 := NB133_124.out; have hnc89 := NB124_133.out; have hnb90 := NB133_136.out; have hnc90 := NB136_133.out
                 have hcz91_0 : w85.cell? ⟨gb133, 0, none⟩ = some (.int .i64 ((rd_T43 ((rd_T46 l0 ((rd_T48 l1 (ji33)).f0)).f1) ((rd_T48 l1 (ji33)).f2)).f0)) := (blk_cell BK133.out 0).trans rfl
                 have hcz91_1 : w85.cell? ⟨gb133, 1, none⟩ = some (.int .i64 ((rd_T43 ((rd_T46 l0 ((rd_T48 l1 (ji33)).f0)).f1) ((rd_T48 l1 (ji33)).f2)).f1)) := (blk_cell BK133.out 1).trans rfl
                 have hcz91_2 : w85.cell? ⟨gb133, 2, none⟩ = some (.int .i64 ((rd_T43 ((rd_T46 l0 ((rd_T48 l1 (ji33)).f0)).f1) ((rd_T48 l1 (ji33)).f2)).f2)) := (blk_cell BK133.out 2).trans rfl
                 have hfz91_0 := blk_frozen BK133.out 0
                 have hfz91_1 := blk_frozen BK133.out 1
                 have hfz91_2 := blk_frozen BK133.out 2
                 have hnb92 := NB136_124.out; have hnc92 := NB124_136.out
                 have hcz93_0 : w85.cell? ⟨gb136, 0, none⟩ = some (.int .i64 0) := (blk_cell BK136.out 0).trans rfl
                 have hcz93_1 : w85.cell? ⟨gb136, 1, none⟩ = some (.int .i64 0) := (blk_cell BK136.out 1).trans rfl
                 have hcz93_2 : w85.cell? ⟨gb136, 2, none⟩ = some (.int .i64 0) := (blk_cell BK136.out 2).trans rfl
                 have hfz93_0 := blk_frozen BK136.out 0
                 have hfz93_1 := blk_frozen BK136.out 1
                 have hfz93_2 := blk_frozen BK136.out 2
                 try go_wp2
                 go_ret
                 exact ⟨by first | rfl | (simp [errW_none, errW_some] <;> rfl) | (simp only [← hji33]; first | rfl | (simp [errW_none, errW_some] <;> rfl)) | (simp [*, errW_none, errW_some] <;> first | rfl | (simp [wrap64]; done)), nH3 HB.out GE124.out GE133.out GE136.out⟩
             · rw [if_neg c32] at H
               have c32b0 : decide (0 < x7_2) = false := decide_eq_false c32
               clear c32
               have H' := Aside0.mk H
               clear H; go_wp2
               go_roundg kj14
               case measure => have := HJ3.out; have := HK2.out; have := HJ14.out; omega
               case rel => exact ⟨(wrap64 (x7_2 + 1)), nS, H', ⟨by have := HJ3.out; have := HK2.out; have := HJ14.out; omega⟩, ⟨nH1 HB.out GE124.out⟩⟩
       · rw [if_neg c13] at H
         have c13b0 : decide (x7_2 < (l1.length : Int)) = false := decide_eq_false c13
         clear c13; obtain rfl := Option.some.inj H; go_wp2; go_ret
         exact ⟨by first | rfl | (simp [errW_none, errW_some] <;> rfl) | (simp [*, errW_none, errW_some] <;> first | rfl | (simp [wrap64]; done)), nH HB.out⟩
end Go.Proofs.YtdpjoblnjjkbfaaDoor.P

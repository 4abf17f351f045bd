/- Contracts of the functions of the program, each one with its plain Lean function; written by a program of the session out of the translation. -/
import Derived.Test.YtdpjoblnjjkbfaaDoorNb
import Derived.Test.YtdpjoblnjjkbfaaDoorPx0
import Derived.Test.YtdpjoblnjjkbfaaDoorPx13
import Derived.Test.YtdpjoblnjjkbfaaDoorPx14
import Derived.Test.YtdpjoblnjjkbfaaDoorPx18
import Derived.Test.YtdpjoblnjjkbfaaDoorPx19
namespace Go.Proofs.YtdpjoblnjjkbfaaDoor.P
open Go.RowKit Go.Proofs.YtdpjoblnjjkbfaaDoorW.PrintWords Go.Proofs.YtdpjoblnjjkbfaaDoorW.PrintLast Go.Proofs.YtdpjoblnjjkbfaaDoorW.PrintMore
attribute [local go_sem] max2_int min2_int max_two min_two max_three min_three max_four min_four   -- for this text's walks alone
set_option linter.unusedVariables false
set_option linter.unusedSimpArgs false
/-! ### impl_LegsOk: function 19 -/
theorem impl_LegsOk.mono_l : ∀ k, (∀ y0 y1 y2 y3, LeO (impl_LegsOk.j0 k y0 y1 y2 y3) (impl_LegsOk.j0 (k + 1) y0 y1 y2 y3)) ∧ (∀ y0 y1 y2 y3 y4 y5, LeO (impl_LegsOk.l0 k y0 y1 y2 y3 y4 y5) (impl_LegsOk.l0 (k + 1) y0 y1 y2 y3 y4 y5)) ∧ (∀ y0 y1 y2 y3 y4 y5 y6 y7 y8 y9 y10, LeO (impl_LegsOk.j2 k y0 y1 y2 y3 y4 y5 y6 y7 y8 y9 y10) (impl_LegsOk.j2 (k + 1) y0 y1 y2 y3 y4 y5 y6 y7 y8 y9 y10))
 | 0 => ⟨fun _ _ _ _ r h => by simp [impl_LegsOk.j0] at h, fun _ _ _ _ _ _ r h => by simp [impl_LegsOk.l0] at h, fun _ _ _ _ _ _ _ _ _ _ _ r h => by simp [impl_LegsOk.j2] at h⟩
 | k + 1 => by
  obtain ⟨ih0, ih1, ih2⟩ := impl_LegsOk.mono_l k
  refine ⟨?_, ?_, ?_⟩
  · intro y0 y1 y2 y3
    unfold impl_LegsOk.j0
    repeat' first
    | (with_reducible exact ih0 _ _ _ _)
    | (with_reducible exact ih1 _ _ _ _ _ _)
    | (with_reducible exact ih2 _ _ _ _ _ _ _ _ _ _ _)
    | (with_reducible exact impl_TableOk.mono _ _)
    | (with_reducible exact LeO.refl _)
    | (with_reducible exact LeO.none _)
    | (with_reducible refine LeO.ite ?_ ?_)
    | (with_reducible refine LeO.bind ?_ (fun _ => ?_))
    | exact ih0 _ _ _ _
    | exact ih1 _ _ _ _ _ _
    | exact ih2 _ _ _ _ _ _ _ _ _ _ _
    | exact impl_TableOk.mono _ _
    | exact LeO.none _
    | refine LeO.ite ?_ ?_
    | refine LeO.bind ?_ (fun _ => ?_)
  · intro y0 y1 y2 y3 y4 y5
    unfold impl_LegsOk.l0
    repeat' first
    | (with_reducible exact ih0 _ _ _ _)
    | (with_reducible exact ih1 _ _ _ _ _ _)
    | (with_reducible exact ih2 _ _ _ _ _ _ _ _ _ _ _)
    | (with_reducible exact impl_TableOk.mono _ _)
    | (with_reducible exact LeO.refl _)
    | (with_reducible exact LeO.none _)
    | (with_reducible refine LeO.ite ?_ ?_)
    | (with_reducible refine LeO.bind ?_ (fun _ => ?_))
    | exact ih0 _ _ _ _
    | exact ih1 _ _ _ _ _ _
    | exact ih2 _ _ _ _ _ _ _ _ _ _ _
    | exact impl_TableOk.mono _ _
    | exact LeO.none _
    | refine LeO.ite ?_ ?_
    | refine LeO.bind ?_ (fun _ => ?_)
  · intro y0 y1 y2 y3 y4 y5 y6 y7 y8 y9 y10
    unfold impl_LegsOk.j2
    repeat' first
    | (with_reducible exact ih0 _ _ _ _)
    | (with_reducible exact ih1 _ _ _ _ _ _)
    | (with_reducible exact ih2 _ _ _ _ _ _ _ _ _ _ _)
    | (with_reducible exact impl_TableOk.mono _ _)
    | (with_reducible exact LeO.refl _)
    | (with_reducible exact LeO.none _)
    | (with_reducible refine LeO.ite ?_ ?_)
    | (with_reducible refine LeO.bind ?_ (fun _ => ?_))
    | exact ih0 _ _ _ _
    | exact ih1 _ _ _ _ _ _
    | exact ih2 _ _ _ _ _ _ _ _ _ _ _
    | exact impl_TableOk.mono _ _
    | exact LeO.none _
    | refine LeO.ite ?_ ?_
    | refine LeO.bind ?_ (fun _ => ?_)
theorem impl_LegsOk.mono : ∀ a0 a1 a2 k, LeO (impl_LegsOk.f k a0 a1 a2) (impl_LegsOk.f (k + 1) a0 a1 a2) := by
 intro a0 a1 a2 k
 obtain ⟨ih0, ih1, ih2⟩ := impl_LegsOk.mono_l k
 unfold impl_LegsOk.f
 repeat' first
  | (with_reducible exact ih0 _ _ _ _)
  | (with_reducible exact ih1 _ _ _ _ _ _)
  | (with_reducible exact ih2 _ _ _ _ _ _ _ _ _ _ _)
  | (with_reducible exact impl_TableOk.mono _ _)
  | (with_reducible exact LeO.refl _)
  | (with_reducible exact LeO.none _)
  | (with_reducible refine LeO.ite ?_ ?_)
  | (with_reducible refine LeO.bind ?_ (fun _ => ?_))
  | exact ih0 _ _ _ _
  | exact ih1 _ _ _ _ _ _
  | exact ih2 _ _ _ _ _ _ _ _ _ _ _
  | exact impl_TableOk.mono _ _
  | exact LeO.none _
  | refine LeO.ite ?_ ?_
  | refine LeO.bind ?_ (fun _ => ?_)
def impl_LegsOk.T6 : Bool × List (List Nat × List Nat) := (true, [([], []), ([0], [0]), ([], []), ([2], [2]), ([3], [3]), ([1, 4], [1, 4]), ([5], [5]), ([6, 5], [6]), ([7], [7]), ([8, 7], [7, 8]), ([9, 7], [7, 9]), ([7, 10], [7, 10]), ([11, 7], [11]), ([12], [12]), ([13, 12], [12, 13]), ([12], [12]), ([15, 12], [12, 15]), ([14, 16, 12], [12, 14, 16]), ([12, 17], [12, 17]), ([18, 12], [18]), ([19], [19]), ([20, 19], [19, 20]), ([19], [19]), ([19], [19]), ([23, 19], [19, 23]), ([22, 24, 19], [19, 22, 24]), ([25, 19], [19, 25]), ([26, 19], [19, 26]), ([27, 19], [19, 27]), ([21, 28, 19], [19, 21, 28]), ([19, 29], [19, 29])])
def impl_LegsOk.B6 : List Nat := [0, 1, 0, 4, 12, 31, 63, 127, 255, 511, 1023, 2047, 4095, 8191, 16383, 8191, 40959, 131071, 262143, 524287, 1048575, 2097151, 1048575, 1048575, 9437183, 30408703, 63963135, 131071999, 265289727, 536870911, 1073741823]
theorem impl_LegsOk.tab6 : rtab .any (opsOf Tryd.f19 6) = impl_LegsOk.T6 := by kernel_rfl
theorem impl_LegsOk.bits6 : waitsOk impl_LegsOk.T6.2 impl_LegsOk.B6 = true := by kernel_rfl
def impl_LegsOk.T10 : Bool × List (List Nat × List Nat) := (true, [([], []), ([], []), ([1], [1]), ([0, 2], [0, 2]), ([3], [3]), ([4], [4]), ([], []), ([6], [6]), ([5, 7], [5, 7]), ([8], [8]), ([9], [9]), ([], []), ([], []), ([11, 12], [11, 12]), ([10, 13], [10, 13]), ([14, 13], [14]), ([15], [15]), ([15], [15]), ([16, 17, 15, 15], [15, 16, 17]), ([15], [15]), ([15], [15]), ([19, 20, 18, 15], [15, 19, 20]), ([15], [15]), ([21, 22, 15], [15, 21, 22]), ([18, 23, 15], [15, 18, 23]), ([15, 24], [15, 24])])
def impl_LegsOk.B10 : List Nat := [0, 0, 2, 7, 15, 31, 0, 64, 255, 511, 1023, 0, 0, 6144, 16383, 32767, 65535, 65535, 262143, 65535, 65535, 2097151, 65535, 8388607, 16777215, 33554431]
theorem impl_LegsOk.tab10 : rtab .any (opsOf Tryd.f19 10) = impl_LegsOk.T10 := by kernel_rfl
theorem impl_LegsOk.bits10 : waitsOk impl_LegsOk.T10.2 impl_LegsOk.B10 = true := by kernel_rfl
set_option maxHeartbeats 8000000 in
set_option maxRecDepth 100000 in
theorem impl_LegsOk.calls (k : Nat) (A0 : Option Addr) (c0 : Nat) (l0 : List (S46)) (A1 : Option Addr) (c1 : Nat) (l1 : List (S48)) (a2 : Int) (r : Bool) (w : World) (hr0 : Kd.C k46 w A0 l0.length l0) (hc0 : l0.length ≤ c0) (hr1 : Kd.C k48 w A1 l1.length l1) (hc1 : l1.length ≤ c1) (h : impl_LegsOk.f k l0 l1 a2 = some r) :
 Calls Tryd.prog 19 #[.slice A0 l0.length c0, .slice A1 l1.length c1, .int .i64 a2] w fun e w' => e = .returned (.bool r) ∧ Below w.heap.size w w' := by
 have hu48 := Tryd.underlying48
 have HR0 := Aside0.mk hr0
 have HC0 := Aside0.mk hc0
 clear hr0 hc0
 have HR1 := Aside0.mk hr1
 have HC1 := Aside0.mk hc1
 clear hr1 hc1
 have HB := Aside0.mk (Below.refl w.heap.size w)
 have H : ((impl_TableOk.f k l0).bind fun t228 => (if t228 = true then ((impl_changeOk.f a2).bind fun t229 => (if t229 = true then (impl_LegsOk.j0 k l0 l1 a2 (decide ((l1.length : Int) > 5))) else (impl_LegsOk.j0 k l0 l1 a2 true))) else (impl_LegsOk.j0 k l0 l1 a2 true))) = some r := h
 clear h
 have HC4 := Aside0.mk H
 clear H
 go_enter Tryd.func19, Tryd.ntmps19
 go_upto_region 1 with (fail)
 go_cut [22] (fun v22 wc => ∃ (kq : Nat) (x22_3 : Bool), v22 = .bool x22_3 ∧ Aside0 (impl_LegsOk.j0 kq l0 l1 a2 x22_3 = some r) ∧ Aside0 (kq ≤ k) ∧ Aside0 (Below w.heap.size w wc))
 case first =>
  have H := HC4.out; clear HC4
  replace H := Option.bind_eq_some_iff.mp H
  obtain ⟨t228, A50, H⟩ := H
  replace H : (if t228 = true then ((impl_changeOk.f a2).bind fun t229 => (if t229 = true then (impl_LegsOk.j0 k l0 l1 a2 (decide ((l1.length : Int) > 5))) else (impl_LegsOk.j0 k l0 l1 a2 true))) else (impl_LegsOk.j0 k l0 l1 a2 true)) = some r := H
  have A5 := Aside0.mk A50
  clear A50
  by_cases c6 : t228 = true
  · subst c6
    have H1 : ((impl_changeOk.f a2).bind fun t229 => (if t229 = true then (impl_LegsOk.j0 k l0 l1 a2 (decide ((l1.length : Int) > 5))) else (impl_LegsOk.j0 k l0 l1 a2 true))) = some r := by rw [if_pos rfl] at H; exact H
    clear H; have H := H1; clear H1
    replace H := Option.bind_eq_some_iff.mp H
    obtain ⟨t229, A70, H⟩ := H
    replace H : (if t229 = true then (impl_LegsOk.j0 k l0 l1 a2 (decide ((l1.length : Int) > 5))) else (impl_LegsOk.j0 k l0 l1 a2 true)) = some r := H
    have A7 := Aside0.mk A70
    clear A70
    by_cases c8 : t229 = true
    · subst c8
      have H1 : (impl_LegsOk.j0 k l0 l1 a2 (decide ((l1.length : Int) > 5))) = some r := by rw [if_pos rfl] at H; exact H
      clear H; have H := H1; clear H1
      have H' := Aside0.mk H
      clear H
      go_wp2_with (first | ((with_reducible refine gate_callee (f := 42) rfl ?_); refine goesL_ (some 11) rfl rfl Tryd.func42 (by kernel_rfl) rfl #[.slice A0 l0.length c0] rfl (by (try simp only [List.map_toArray, List.map_cons, List.map_nil]); first | done | rfl | (simp only [List.length_drop, List.length_take]; rfl)) ?_; (with_reducible refine (impl_TableOk.calls k _ _ l0 true _ ?side1 ?side2 A5.out).mono ?_); (case side1 => repeat (first | exact (Kd.C_below HR0.out HB.out) | (with_reducible refine Kd.C_alloc ?_ _) | (with_reducible refine Kd.C_drewN ?_ _) | (with_reducible refine Kd.C_drew ?_))); (case side2 => exact HC0.out); rintro e w9 ⟨rfl, hb⟩; refine ⟨_, rfl, ?_⟩; have n0_ := Aside0.mk (below_step (nH HB.out) hb); clear HB; have HB := n0_; clear n0_; (try clear hb); (try clear hb2); (try clear hk); (try clear hi)) | (go_at_call 43; (with_reducible refine (impl_changeOk.calls a2 true _ A7.out).mono ?_); rintro e w' ⟨rfl, ⟨nd, rfl⟩⟩))
      go_meet
      case rel => exact ⟨_, (decide ((l1.length : Int) > 5)), nS, H', ⟨by first | omega | exact Nat.le_refl _⟩, ⟨nH HB.out⟩⟩
    · replace c8 := Bool.eq_false_iff.mpr c8
      subst c8
      have H1 : (impl_LegsOk.j0 k l0 l1 a2 true) = some r := by rw [if_neg (show ¬ (false = true) by decide)] at H; exact H
      clear H; have H := H1; clear H1
      have H' := Aside0.mk H
      clear H
      go_wp2_with (first | ((with_reducible refine gate_callee (f := 42) rfl ?_); refine goesL_ (some 11) rfl rfl Tryd.func42 (by kernel_rfl) rfl #[.slice A0 l0.length c0] rfl (by (try simp only [List.map_toArray, List.map_cons, List.map_nil]); first | done | rfl | (simp only [List.length_drop, List.length_take]; rfl)) ?_; (with_reducible refine (impl_TableOk.calls k _ _ l0 true _ ?side1 ?side2 A5.out).mono ?_); (case side1 => repeat (first | exact (Kd.C_below HR0.out HB.out) | (with_reducible refine Kd.C_alloc ?_ _) | (with_reducible refine Kd.C_drewN ?_ _) | (with_reducible refine Kd.C_drew ?_))); (case side2 => exact HC0.out); rintro e w10 ⟨rfl, hb⟩; refine ⟨_, rfl, ?_⟩; have n0_ := Aside0.mk (below_step (nH HB.out) hb); clear HB; have HB := n0_; clear n0_; (try clear hb); (try clear hb2); (try clear hk); (try clear hi)) | (go_at_call 43; (with_reducible refine (impl_changeOk.calls a2 false _ A7.out).mono ?_); rintro e w' ⟨rfl, ⟨nd, rfl⟩⟩))
      go_meet
      case rel => exact ⟨_, (true), nS, H', ⟨by first | omega | exact Nat.le_refl _⟩, ⟨nH HB.out⟩⟩
  · replace c6 := Bool.eq_false_iff.mpr c6
    subst c6
    have H1 : (impl_LegsOk.j0 k l0 l1 a2 true) = some r := by rw [if_neg (show ¬ (false = true) by decide)] at H; exact H
    clear H; have H := H1; clear H1
    have H' := Aside0.mk H
    clear H
    go_wp2_with (first | ((with_reducible refine gate_callee (f := 42) rfl ?_); refine goesL_ (some 11) rfl rfl Tryd.func42 (by kernel_rfl) rfl #[.slice A0 l0.length c0] rfl (by (try simp only [List.map_toArray, List.map_cons, List.map_nil]); first | done | rfl | (simp only [List.length_drop, List.length_take]; rfl)) ?_; (with_reducible refine (impl_TableOk.calls k _ _ l0 false _ ?side1 ?side2 A5.out).mono ?_); (case side1 => repeat (first | exact (Kd.C_below HR0.out HB.out) | (with_reducible refine Kd.C_alloc ?_ _) | (with_reducible refine Kd.C_drewN ?_ _) | (with_reducible refine Kd.C_drew ?_))); (case side2 => exact HC0.out); rintro e w11 ⟨rfl, hb⟩; refine ⟨_, rfl, ?_⟩; have n0_ := Aside0.mk (below_step (nH HB.out) hb); clear HB; have HB := n0_; clear n0_; (try clear hb); (try clear hb2); (try clear hk); (try clear hi)))
    go_meet
    case rel => exact ⟨_, (true), nS, H', ⟨by first | omega | exact Nat.le_refl _⟩, ⟨nH HB.out⟩⟩
 case rest =>
  clear HC4; try clear c1; try clear p2; try clear c4; try clear c6; try clear c8
  obtain ⟨kq, x22_3, rfl, HA, HJ3, HB⟩ := hcut
  cases kq with
  | zero => exact absurd HA.out (by simp [impl_LegsOk.j0])
  | succ kj3 =>
   have H := HA.out; clear HA
   simp only [impl_LegsOk.j0] at H
   by_cases c12 : x22_3 = true
   · subst c12
     have H1 : (some false) = some r := by rw [if_pos rfl] at H; exact H
     clear H; have H := H1; clear H1; obtain rfl := Option.some.inj H; go_wp2; go_ret
     exact ⟨by first | rfl | (simp [errW_none, errW_some] <;> rfl) | (simp [*, errW_none, errW_some] <;> first | rfl | (simp [wrap64]; done)), nH HB.out⟩
   · replace c12 := Bool.eq_false_iff.mpr c12
     subst c12
     have H1 : (impl_LegsOk.l0 kj3 l0 l1 a2 l1 (l1.length : Int) 0) = some r := by rw [if_neg (show ¬ (false = true) by decide)] at H; exact H
     clear H; have H := H1; clear H1
     have H' := Aside0.mk H
     clear H; go_wp2
     go_loopg [25] kj3 (fun kq v25 w' => ∃ (x25_2 : Int), v25 = .int .i64 x25_2 ∧ Aside0 (impl_LegsOk.l0 kq l0 l1 a2 l1 (l1.length : Int) x25_2 = some r) ∧ Aside0 (kq ≤ kj3) ∧ Aside0 (Below w.heap.size w w'))
     case atStart => exact ⟨(0), nS, H', ⟨Nat.le_refl _⟩, ⟨nH HB.out⟩⟩
     case round =>
      clear H'
      try clear c1; try clear p2; try clear c4; try clear c6; try clear p6; try clear c8; try clear c12; try clear p2
      obtain ⟨x25_2, rfl, HA, HK2, HB⟩ := hrel
      cases gk with
      | zero => exact absurd HA.out (by simp [impl_LegsOk.l0])
      | succ k2 =>
       have H := HA.out; clear HA
       simp only [impl_LegsOk.l0] at H
       by_cases c13 : x25_2 < (l1.length : Int)
       · rw [if_pos c13] at H
         have c13b0 : decide (x25_2 < (l1.length : Int)) = true := decide_eq_true c13
         clear c13
         by_cases c14 : 0 ≤ x25_2
         rotate_left
         · (rw [if_neg c14] at H; exact absurd H (by simp))
         rw [if_pos c14] at H
         have c14b0 : decide (0 ≤ x25_2) = true := decide_eq_true c14
         clear c14
         by_cases c15 : x25_2 < (l1.length : Int)
         rotate_left
         · (rw [if_neg c15] at H; exact absurd H (by simp))
         rw [if_pos c15] at H
         have c15b0 : decide (x25_2 < (l1.length : Int)) = true := decide_eq_true c15
         clear c15
         have HC16 := Aside0.mk H
         clear H
         have p230 : 0 ≤ (x25_2 : Int) := of_decide_eq_true nQ
         have q230 : x25_2 < (l1.length : Int) := of_decide_eq_true nQ
         obtain ⟨ad230, e230, hx230_0, hx230_1, hx230_2⟩ := at_T48 HR1.out x25_2 p230 q230
         cases e230
         replace hx230_0 := (HB.out.cell (World.block_lt_of_cell? w _ hx230_0)).trans hx230_0
         replace hx230_1 := (HB.out.cell (World.block_lt_of_cell? w _ hx230_1)).trans hx230_1
         replace hx230_2 := (HB.out.cell (World.block_lt_of_cell? w _ hx230_2)).trans hx230_2
         replace p230 := eq_true p230; replace q230 := eq_true q230
         go_upto_region 6 with (first | ((with_reducible refine gate_dst (N := 8) rfl ?_); (try (refine gate_guard (by rfl) ?_; dsimp only)); refine box_event ?hg (N := 8) ?hd (cs := #[.int .i64 0, .int .i64 0, .int .i64 0]) (t := 48) ?hr ?_; (case hd => rfl); (case hg => rfl); (case hr => first | (go_simp; done) | (go_simp; rfl)); intro gb231 hg w17 hbox hb; have n0_ := Aside0.mk (below_step (nH HB.out) hb); have n1_ := Aside0.mk (hbox); have n2_ := Aside0.mk ((by rw [hg]; exact (below_size (nH HB.out)) : w.heap.size ≤ gb231)); have n3_ := Aside0.mk ((by rw [hg]; exact (below_size (nH HB.out)) : w.heap.size ≤ gb231)); clear HB; have HB := n0_; have BK231 := n1_; have GW231 := n2_; have GE231 := n3_; clear n0_ n1_ n2_ n3_; clear hb hbox hg; have hcz18_0 : w17.cell? ⟨gb231, 0, none⟩ = some (.int .i64 0) := (blk_cell BK231.out 0).trans rfl; have hcz18_1 : w17.cell? ⟨gb231, 1, none⟩ = some (.int .i64 0) := (blk_cell BK231.out 1).trans rfl; have hcz18_2 : w17.cell? ⟨gb231, 2, none⟩ = some (.int .i64 0) := (blk_cell BK231.out 2).trans rfl; have hfz18_0 := blk_frozen BK231.out 0; have hfz18_1 := blk_frozen BK231.out 1; have hfz18_2 := blk_frozen BK231.out 2))
         (try simp only [Act.put, List.setIfInBounds_toArray, List.set_cons_zero, List.set_cons_succ])
         go_cut [60] (fun v60 wc => ∃ (kq : Nat) (x60_15 : Bool), v60 = .bool x60_15 ∧ Aside0 (impl_LegsOk.j2 kq l0 l1 a2 x25_2 l1 (l1.length : Int) x25_2 x60_15 ((rd_T48 l1 x25_2).f0) ((rd_T48 l1 x25_2).f1) ((rd_T48 l1 x25_2).f2) = some r) ∧ Aside0 (kq ≤ k2) ∧ Aside0 (wc.heap[gb231]? = some (.cells #[.int .i64 ((rd_T48 l1 x25_2).f0), .int .i64 ((rd_T48 l1 x25_2).f1), .int .i64 ((rd_T48 l1 x25_2).f2)] 48 (0, 0))) ∧ Aside0 (Below w.heap.size w wc))
         case first =>
          have H := HC16.out; clear HC16
          replace H := Option.bind_eq_some_iff.mp H
          obtain ⟨t232, A190, H⟩ := H
          replace H : (if t232 = true then (if ((rd_T48 l1 x25_2).f1) < 0 then (impl_LegsOk.j2 k2 l0 l1 a2 x25_2 l1 (l1.length : Int) x25_2 true ((rd_T48 l1 x25_2).f0) ((rd_T48 l1 x25_2).f1) ((rd_T48 l1 x25_2).f2)) else (if ((rd_T48 l1 x25_2).f1) ≥ ((rd_T48 l1 x25_2).f2) then (impl_LegsOk.j2 k2 l0 l1 a2 x25_2 l1 (l1.length : Int) x25_2 true ((rd_T48 l1 x25_2).f0) ((rd_T48 l1 x25_2).f1) ((rd_T48 l1 x25_2).f2)) else (if 0 ≤ ((rd_T48 l1 x25_2).f0) then (if ((rd_T48 l1 x25_2).f0) < (l0.length : Int) then (impl_LegsOk.j2 k2 l0 l1 a2 x25_2 l1 (l1.length : Int) x25_2 (decide (((rd_T48 l1 x25_2).f2) ≥ (((rd_T46 l0 ((rd_T48 l1 x25_2).f0)).f1).length : Int))) ((rd_T48 l1 x25_2).f0) ((rd_T48 l1 x25_2).f1) ((rd_T48 l1 x25_2).f2)) else (none)) else (none)))) else (impl_LegsOk.j2 k2 l0 l1 a2 x25_2 l1 (l1.length : Int) x25_2 true ((rd_T48 l1 x25_2).f0) ((rd_T48 l1 x25_2).f1) ((rd_T48 l1 x25_2).f2))) = some r := H
          have A19 := Aside0.mk A190
          clear A190
          by_cases c20 : t232 = true
          · subst c20
            have H1 : (if ((rd_T48 l1 x25_2).f1) < 0 then (impl_LegsOk.j2 k2 l0 l1 a2 x25_2 l1 (l1.length : Int) x25_2 true ((rd_T48 l1 x25_2).f0) ((rd_T48 l1 x25_2).f1) ((rd_T48 l1 x25_2).f2)) else (if ((rd_T48 l1 x25_2).f1) ≥ ((rd_T48 l1 x25_2).f2) then (impl_LegsOk.j2 k2 l0 l1 a2 x25_2 l1 (l1.length : Int) x25_2 true ((rd_T48 l1 x25_2).f0) ((rd_T48 l1 x25_2).f1) ((rd_T48 l1 x25_2).f2)) else (if 0 ≤ ((rd_T48 l1 x25_2).f0) then (if ((rd_T48 l1 x25_2).f0) < (l0.length : Int) then (impl_LegsOk.j2 k2 l0 l1 a2 x25_2 l1 (l1.length : Int) x25_2 (decide (((rd_T48 l1 x25_2).f2) ≥ (((rd_T46 l0 ((rd_T48 l1 x25_2).f0)).f1).length : Int))) ((rd_T48 l1 x25_2).f0) ((rd_T48 l1 x25_2).f1) ((rd_T48 l1 x25_2).f2)) else (none)) else (none)))) = some r := by rw [if_pos rfl] at H; exact H
            clear H; have H := H1; clear H1
            by_cases c21 : ((rd_T48 l1 x25_2).f1) < 0
            · rw [if_pos c21] at H
              have c21b0 : decide (((rd_T48 l1 x25_2).f1) < 0) = true := decide_eq_true c21
              clear c21
              (first | rw [c21b0] | (simp only [i64_w, i32_w]; rw [c21b0]) | skip)
              have H' := Aside0.mk H
              clear H
              try go_wp2
              have n0_ : Aside0 ((((w17.setCell ⟨gb231, 0, none⟩ (.int .i64 ((rd_T48 l1 x25_2).f0))).setCell ⟨gb231, 1, none⟩ (.int .i64 ((rd_T48 l1 x25_2).f1))).setCell ⟨gb231, 2, none⟩ (.int .i64 ((rd_T48 l1 x25_2).f2))).heap[gb231]? = some (.cells #[.int .i64 ((rd_T48 l1 x25_2).f0), .int .i64 ((rd_T48 l1 x25_2).f1), .int .i64 ((rd_T48 l1 x25_2).f2)] 48 (0, 0))) := ⟨by (with_reducible repeat (first | refine blk_drewN ?_ _ | refine blk_drew ?_ | refine blk_alloc ?_ _)); refine blk_put (cs := #[.int .i64 ((rd_T48 l1 x25_2).f0), .int .i64 ((rd_T48 l1 x25_2).f1), .int .i64 0]) ?_ 2 _ rfl; (with_reducible repeat (first | refine blk_drewN ?_ _ | refine blk_drew ?_ | refine blk_alloc ?_ _)); refine blk_put (cs := #[.int .i64 ((rd_T48 l1 x25_2).f0), .int .i64 0, .int .i64 0]) ?_ 1 _ rfl; (with_reducible repeat (first | refine blk_drewN ?_ _ | refine blk_drew ?_ | refine blk_alloc ?_ _)); refine blk_put (cs := #[.int .i64 0, .int .i64 0, .int .i64 0]) ?_ 0 _ rfl; (with_reducible repeat (first | refine blk_drewN ?_ _ | refine blk_drew ?_ | refine blk_alloc ?_ _)); exact BK231.out⟩
              have n1_ : Aside0 (Below w.heap.size w (((w17.setCell ⟨gb231, 0, none⟩ (.int .i64 ((rd_T48 l1 x25_2).f0))).setCell ⟨gb231, 1, none⟩ (.int .i64 ((rd_T48 l1 x25_2).f1))).setCell ⟨gb231, 2, none⟩ (.int .i64 ((rd_T48 l1 x25_2).f2)))) := ⟨nH1 HB.out GE231.out⟩
              (try clear BK231); (try clear HB)
              generalize (((w17.setCell ⟨gb231, 0, none⟩ (.int .i64 ((rd_T48 l1 x25_2).f0))).setCell ⟨gb231, 1, none⟩ (.int .i64 ((rd_T48 l1 x25_2).f1))).setCell ⟨gb231, 2, none⟩ (.int .i64 ((rd_T48 l1 x25_2).f2))) = w22 at n0_ n1_ ⊢
              have BK231 := n0_; have HB := n1_; clear n0_ n1_
              have n0_ := Aside0.mk (blk_drew BK231.out)
              have n1_ := Aside0.mk (below_drew1 HB.out)
              clear BK231; clear HB; have BK231 := n0_; have HB := n1_; clear n0_ n1_
              refine start_ (n := 31) (S := fun w' => w'.cell? ⟨gb231, 0, none⟩ = some (.int .i64 ((rd_T48 l1 x25_2).f0)) ∧ w'.cell? ⟨gb231, 1, none⟩ = some (.int .i64 ((rd_T48 l1 x25_2).f1)) ∧ w'.cell? ⟨gb231, 2, none⟩ = some (.int .i64 ((rd_T48 l1 x25_2).f2))) (ds := []) #[F,F,F,F,F,F,F,F,F,F,F,F,F,F,F,F,F,F,F,F,F,F,F,F,F,F,F,F,F,F,F] (by kernel_rfl) rfl rfl ⟨(blk_cell BK231.out 0).trans rfl, (blk_cell BK231.out 1).trans rfl, (blk_cell BK231.out 2).trans rfl⟩ (fun hHeld => ?_); refine with_tabW impl_LegsOk.tab6 impl_LegsOk.bits6 (fun HT_ HW_ => ?_)
              generalize w22.drew = w23 at BK231 HB hHeld ⊢
              refine pU 0 (some 30) #[T,F,F,F,F,F,F,F,F,F,F,F,F,F,F,F,F,F,F,F,F,F,F,F,F,F,F,F,F,F,F] rfl rfl HT_.out ?_
              refine pU 2 (some 32) #[T,F,T,F,F,F,F,F,F,F,F,F,F,F,F,F,F,F,F,F,F,F,F,F,F,F,F,F,F,F,F] rfl rfl HT_.out ?_
              refine pU 3 (some 33) #[T,F,T,T,F,F,F,F,F,F,F,F,F,F,F,F,F,F,F,F,F,F,F,F,F,F,F,F,F,F,F] rfl rfl HT_.out ?_
              refine pU 4 (some 34) #[T,F,T,T,T,F,F,F,F,F,F,F,F,F,F,F,F,F,F,F,F,F,F,F,F,F,F,F,F,F,F] rfl rfl HT_.out ?_
              refine tU3 1 (some 31) #[T,T,T,T,T,F,F,F,F,F,F,F,F,F,F,F,F,F,F,F,F,F,F,F,F,F,F,F,F,F,F] rfl rfl HT_.out HW_.out hHeld ?_
              refine one_ (i := 5) (N := some 35) #[T,T,T,T,T,T,F,F,F,F,F,F,F,F,F,F,F,F,F,F,F,F,F,F,F,F,F,F,F,F,F] rfl rfl (one_of HT_.out (by kernel_rfl)) (by decide) (fun K hK => ?_)
              refine goes_ Tryd.func44 (by kernel_rfl) rfl #[.int .i64 ((rd_T48 l1 x25_2).f0), .int .i64 0, .int .i64 (wrap64 ((l0.length : Int) - 1))] (by rfl) rfl rfl (by (try simp only [List.map_toArray, List.map_cons, List.map_nil]); first | done | rfl | (simp only [List.length_drop, List.length_take]; rfl)) ?_
              with_reducible refine (impl_between.calls ((rd_T48 l1 x25_2).f0) 0 (wrap64 ((l0.length : Int) - 1)) true _ A19.out).mono ?_
              rintro e w' ⟨rfl, ⟨nd, rfl⟩⟩
              refine ⟨_, rfl, ?_⟩
              refine hK.out _ _ ⟨(blk_cell BK231.out 0).trans rfl, (blk_cell BK231.out 1).trans rfl, (blk_cell BK231.out 2).trans rfl⟩ (fun hHeld => ?_)
              clear hK K
              refine norm_ (a' := ?_) ?_ ?_
              rotate_left
              · show Act.put _ (some 35) _ = _
                simp only [Act.put, List.setIfInBounds_toArray, List.set_cons_zero, List.set_cons_succ, i64_w, i32_w]
                rfl
              refine pU 6 (some 36) #[T,T,T,T,T,T,T,F,F,F,F,F,F,F,F,F,F,F,F,F,F,F,F,F,F,F,F,F,F,F,F] rfl rfl HT_.out ?_
              refine pU 7 (some 37) #[T,T,T,T,T,T,T,T,F,F,F,F,F,F,F,F,F,F,F,F,F,F,F,F,F,F,F,F,F,F,F] rfl rfl HT_.out ?_
              refine pU 8 (some 38) #[T,T,T,T,T,T,T,T,T,F,F,F,F,F,F,F,F,F,F,F,F,F,F,F,F,F,F,F,F,F,F] rfl rfl HT_.out ?_
              refine tU3 9 (some 39) #[T,T,T,T,T,T,T,T,T,T,F,F,F,F,F,F,F,F,F,F,F,F,F,F,F,F,F,F,F,F,F] rfl rfl HT_.out HW_.out hHeld ?_
              refine pU 10 (some 40) #[T,T,T,T,T,T,T,T,T,T,T,F,F,F,F,F,F,F,F,F,F,F,F,F,F,F,F,F,F,F,F] rfl rfl HT_.out ?_
              refine pU 11 (some 41) #[T,T,T,T,T,T,T,T,T,T,T,T,F,F,F,F,F,F,F,F,F,F,F,F,F,F,F,F,F,F,F] rfl rfl HT_.out ?_
              refine pU 12 (some 42) #[T,T,T,T,T,T,T,T,T,T,T,T,T,F,F,F,F,F,F,F,F,F,F,F,F,F,F,F,F,F,F] rfl rfl HT_.out ?_
              refine pV 13 (some 43) #[T,T,T,T,T,T,T,T,T,T,T,T,T,T,F,F,F,F,F,F,F,F,F,F,F,F,F,F,F,F,F] rfl rfl HT_.out ?_
              refine pV 14 (some 44) #[T,T,T,T,T,T,T,T,T,T,T,T,T,T,T,F,F,F,F,F,F,F,F,F,F,F,F,F,F,F,F] rfl rfl HT_.out ?_
              refine pV 15 (some 45) #[T,T,T,T,T,T,T,T,T,T,T,T,T,T,T,T,F,F,F,F,F,F,F,F,F,F,F,F,F,F,F] rfl rfl HT_.out ?_
              refine pV 16 (some 46) #[T,T,T,T,T,T,T,T,T,T,T,T,T,T,T,T,T,F,F,F,F,F,F,F,F,F,F,F,F,F,F] rfl rfl HT_.out ?_
              refine pV 17 (some 47) #[T,T,T,T,T,T,T,T,T,T,T,T,T,T,T,T,T,T,F,F,F,F,F,F,F,F,F,F,F,F,F] rfl rfl HT_.out ?_
              refine pU 18 (some 48) #[T,T,T,T,T,T,T,T,T,T,T,T,T,T,T,T,T,T,T,F,F,F,F,F,F,F,F,F,F,F,F] rfl rfl HT_.out ?_
              refine pU 19 (some 49) #[T,T,T,T,T,T,T,T,T,T,T,T,T,T,T,T,T,T,T,T,F,F,F,F,F,F,F,F,F,F,F] rfl rfl HT_.out ?_
              refine pV 20 (some 50) #[T,T,T,T,T,T,T,T,T,T,T,T,T,T,T,T,T,T,T,T,T,F,F,F,F,F,F,F,F,F,F] rfl rfl HT_.out ?_
              refine pV 21 (some 51) #[T,T,T,T,T,T,T,T,T,T,T,T,T,T,T,T,T,T,T,T,T,T,F,F,F,F,F,F,F,F,F] rfl rfl HT_.out ?_
              refine pV 22 (some 52) #[T,T,T,T,T,T,T,T,T,T,T,T,T,T,T,T,T,T,T,T,T,T,T,F,F,F,F,F,F,F,F] rfl rfl HT_.out ?_
              refine pV 23 (some 53) #[T,T,T,T,T,T,T,T,T,T,T,T,T,T,T,T,T,T,T,T,T,T,T,T,F,F,F,F,F,F,F] rfl rfl HT_.out ?_
              refine pV 24 (some 54) #[T,T,T,T,T,T,T,T,T,T,T,T,T,T,T,T,T,T,T,T,T,T,T,T,T,F,F,F,F,F,F] rfl rfl HT_.out ?_
              refine pV 25 (some 55) #[T,T,T,T,T,T,T,T,T,T,T,T,T,T,T,T,T,T,T,T,T,T,T,T,T,T,F,F,F,F,F] rfl rfl HT_.out ?_
              refine pV 26 (some 56) #[T,T,T,T,T,T,T,T,T,T,T,T,T,T,T,T,T,T,T,T,T,T,T,T,T,T,T,F,F,F,F] rfl rfl HT_.out ?_
              refine pV 27 (some 57) #[T,T,T,T,T,T,T,T,T,T,T,T,T,T,T,T,T,T,T,T,T,T,T,T,T,T,T,T,F,F,F] rfl rfl HT_.out ?_
              refine pV 28 (some 58) #[T,T,T,T,T,T,T,T,T,T,T,T,T,T,T,T,T,T,T,T,T,T,T,T,T,T,T,T,T,F,F] rfl rfl HT_.out ?_
              refine pV 29 (some 59) #[T,T,T,T,T,T,T,T,T,T,T,T,T,T,T,T,T,T,T,T,T,T,T,T,T,T,T,T,T,T,F] rfl rfl HT_.out ?_
              refine pU 30 (some 60) #[T,T,T,T,T,T,T,T,T,T,T,T,T,T,T,T,T,T,T,T,T,T,T,T,T,T,T,T,T,T,T] rfl rfl HT_.out ?_
              refine done_ (done_of HT_.out (by kernel_rfl)) ?_
              try go_wp2
              go_meet
              case rel => exact ⟨_, (true), nS, H', ⟨by have := HJ3.out; have := HK2.out; first | omega | exact Nat.le_refl _⟩, ⟨by (with_reducible repeat (first | refine blk_drewN ?_ _ | refine blk_drew ?_ | refine blk_alloc ?_ _)); exact BK231.out⟩, ⟨nH1 HB.out GE231.out⟩⟩
            · rw [if_neg c21] at H
              have c21b0 : decide (((rd_T48 l1 x25_2).f1) < 0) = false := decide_eq_false c21
              clear c21
              (first | rw [c21b0] | (simp only [i64_w, i32_w]; rw [c21b0]) | skip)
              by_cases c24 : ((rd_T48 l1 x25_2).f1) ≥ ((rd_T48 l1 x25_2).f2)
              · rw [if_pos c24] at H
                have c24b0 : decide (((rd_T48 l1 x25_2).f2) ≤ ((rd_T48 l1 x25_2).f1)) = true := decide_eq_true c24
                clear c24
                have H' := Aside0.mk H
                clear H
                try go_wp2
                have n0_ : Aside0 ((((w17.setCell ⟨gb231, 0, none⟩ (.int .i64 ((rd_T48 l1 x25_2).f0))).setCell ⟨gb231, 1, none⟩ (.int .i64 ((rd_T48 l1 x25_2).f1))).setCell ⟨gb231, 2, none⟩ (.int .i64 ((rd_T48 l1 x25_2).f2))).heap[gb231]? = some (.cells #[.int .i64 ((rd_T48 l1 x25_2).f0), .int .i64 ((rd_T48 l1 x25_2).f1), .int .i64 ((rd_T48 l1 x25_2).f2)] 48 (0, 0))) := ⟨by (with_reducible repeat (first | refine blk_drewN ?_ _ | refine blk_drew ?_ | refine blk_alloc ?_ _)); refine blk_put (cs := #[.int .i64 ((rd_T48 l1 x25_2).f0), .int .i64 ((rd_T48 l1 x25_2).f1), .int .i64 0]) ?_ 2 _ rfl; (with_reducible repeat (first | refine blk_drewN ?_ _ | refine blk_drew ?_ | refine blk_alloc ?_ _)); refine blk_put (cs := #[.int .i64 ((rd_T48 l1 x25_2).f0), .int .i64 0, .int .i64 0]) ?_ 1 _ rfl; (with_reducible repeat (first | refine blk_drewN ?_ _ | refine blk_drew ?_ | refine blk_alloc ?_ _)); refine blk_put (cs := #[.int .i64 0, .int .i64 0, .int .i64 0]) ?_ 0 _ rfl; (with_reducible repeat (first | refine blk_drewN ?_ _ | refine blk_drew ?_ | refine blk_alloc ?_ _)); exact BK231.out⟩
                have n1_ : Aside0 (Below w.heap.size w (((w17.setCell ⟨gb231, 0, none⟩ (.int .i64 ((rd_T48 l1 x25_2).f0))).setCell ⟨gb231, 1, none⟩ (.int .i64 ((rd_T48 l1 x25_2).f1))).setCell ⟨gb231, 2, none⟩ (.int .i64 ((rd_T48 l1 x25_2).f2)))) := ⟨nH1 HB.out GE231.out⟩
                (try clear BK231); (try clear HB)
                generalize (((w17.setCell ⟨gb231, 0, none⟩ (.int .i64 ((rd_T48 l1 x25_2).f0))).setCell ⟨gb231, 1, none⟩ (.int .i64 ((rd_T48 l1 x25_2).f1))).setCell ⟨gb231, 2, none⟩ (.int .i64 ((rd_T48 l1 x25_2).f2))) = w25 at n0_ n1_ ⊢
                have BK231 := n0_; have HB := n1_; clear n0_ n1_
                have n0_ := Aside0.mk (blk_drew BK231.out)
                have n1_ := Aside0.mk (below_drew1 HB.out)
                clear BK231; clear HB; have BK231 := n0_; have HB := n1_; clear n0_ n1_
                refine start_ (n := 31) (S := fun w' => w'.cell? ⟨gb231, 0, none⟩ = some (.int .i64 ((rd_T48 l1 x25_2).f0)) ∧ w'.cell? ⟨gb231, 1, none⟩ = some (.int .i64 ((rd_T48 l1 x25_2).f1)) ∧ w'.cell? ⟨gb231, 2, none⟩ = some (.int .i64 ((rd_T48 l1 x25_2).f2))) (ds := []) #[F,F,F,F,F,F,F,F,F,F,F,F,F,F,F,F,F,F,F,F,F,F,F,F,F,F,F,F,F,F,F] (by kernel_rfl) rfl rfl ⟨(blk_cell BK231.out 0).trans rfl, (blk_cell BK231.out 1).trans rfl, (blk_cell BK231.out 2).trans rfl⟩ (fun hHeld => ?_); refine with_tabW impl_LegsOk.tab6 impl_LegsOk.bits6 (fun HT_ HW_ => ?_)
                generalize w25.drew = w26 at BK231 HB hHeld ⊢
                refine pU 0 (some 30) #[T,F,F,F,F,F,F,F,F,F,F,F,F,F,F,F,F,F,F,F,F,F,F,F,F,F,F,F,F,F,F] rfl rfl HT_.out ?_
                refine pU 2 (some 32) #[T,F,T,F,F,F,F,F,F,F,F,F,F,F,F,F,F,F,F,F,F,F,F,F,F,F,F,F,F,F,F] rfl rfl HT_.out ?_
                refine pU 3 (some 33) #[T,F,T,T,F,F,F,F,F,F,F,F,F,F,F,F,F,F,F,F,F,F,F,F,F,F,F,F,F,F,F] rfl rfl HT_.out ?_
                refine pU 4 (some 34) #[T,F,T,T,T,F,F,F,F,F,F,F,F,F,F,F,F,F,F,F,F,F,F,F,F,F,F,F,F,F,F] rfl rfl HT_.out ?_
                refine tU3 1 (some 31) #[T,T,T,T,T,F,F,F,F,F,F,F,F,F,F,F,F,F,F,F,F,F,F,F,F,F,F,F,F,F,F] rfl rfl HT_.out HW_.out hHeld ?_
                refine one_ (i := 5) (N := some 35) #[T,T,T,T,T,T,F,F,F,F,F,F,F,F,F,F,F,F,F,F,F,F,F,F,F,F,F,F,F,F,F] rfl rfl (one_of HT_.out (by kernel_rfl)) (by decide) (fun K hK => ?_)
                refine goes_ Tryd.func44 (by kernel_rfl) rfl #[.int .i64 ((rd_T48 l1 x25_2).f0), .int .i64 0, .int .i64 (wrap64 ((l0.length : Int) - 1))] (by rfl) rfl rfl (by (try simp only [List.map_toArray, List.map_cons, List.map_nil]); first | done | rfl | (simp only [List.length_drop, List.length_take]; rfl)) ?_
                with_reducible refine (impl_between.calls ((rd_T48 l1 x25_2).f0) 0 (wrap64 ((l0.length : Int) - 1)) true _ A19.out).mono ?_
                rintro e w' ⟨rfl, ⟨nd, rfl⟩⟩
                refine ⟨_, rfl, ?_⟩
                refine hK.out _ _ ⟨(blk_cell BK231.out 0).trans rfl, (blk_cell BK231.out 1).trans rfl, (blk_cell BK231.out 2).trans rfl⟩ (fun hHeld => ?_)
                clear hK K
                refine norm_ (a' := ?_) ?_ ?_
                rotate_left
                · show Act.put _ (some 35) _ = _
                  simp only [Act.put, List.setIfInBounds_toArray, List.set_cons_zero, List.set_cons_succ, i64_w, i32_w]
                  rfl
                refine pU 6 (some 36) #[T,T,T,T,T,T,T,F,F,F,F,F,F,F,F,F,F,F,F,F,F,F,F,F,F,F,F,F,F,F,F] rfl rfl HT_.out ?_
                refine pU 7 (some 37) #[T,T,T,T,T,T,T,T,F,F,F,F,F,F,F,F,F,F,F,F,F,F,F,F,F,F,F,F,F,F,F] rfl rfl HT_.out ?_
                refine pU 8 (some 38) #[T,T,T,T,T,T,T,T,T,F,F,F,F,F,F,F,F,F,F,F,F,F,F,F,F,F,F,F,F,F,F] rfl rfl HT_.out ?_
                refine tU3 9 (some 39) #[T,T,T,T,T,T,T,T,T,T,F,F,F,F,F,F,F,F,F,F,F,F,F,F,F,F,F,F,F,F,F] rfl rfl HT_.out HW_.out hHeld ?_
                refine pU 10 (some 40) #[T,T,T,T,T,T,T,T,T,T,T,F,F,F,F,F,F,F,F,F,F,F,F,F,F,F,F,F,F,F,F] rfl rfl HT_.out ?_
                refine pU 11 (some 41) #[T,T,T,T,T,T,T,T,T,T,T,T,F,F,F,F,F,F,F,F,F,F,F,F,F,F,F,F,F,F,F] rfl rfl HT_.out ?_
                refine pU 12 (some 42) #[T,T,T,T,T,T,T,T,T,T,T,T,T,F,F,F,F,F,F,F,F,F,F,F,F,F,F,F,F,F,F] rfl rfl HT_.out ?_
                refine pU 13 (some 43) #[T,T,T,T,T,T,T,T,T,T,T,T,T,T,F,F,F,F,F,F,F,F,F,F,F,F,F,F,F,F,F] rfl rfl HT_.out ?_
                refine pU 15 (some 45) #[T,T,T,T,T,T,T,T,T,T,T,T,T,T,F,T,F,F,F,F,F,F,F,F,F,F,F,F,F,F,F] rfl rfl HT_.out ?_
                refine tU3 14 (some 44) #[T,T,T,T,T,T,T,T,T,T,T,T,T,T,T,T,F,F,F,F,F,F,F,F,F,F,F,F,F,F,F] rfl rfl HT_.out HW_.out hHeld ?_
                refine tU3 16 (some 46) #[T,T,T,T,T,T,T,T,T,T,T,T,T,T,T,T,T,F,F,F,F,F,F,F,F,F,F,F,F,F,F] rfl rfl HT_.out HW_.out hHeld ?_
                refine pU 17 (some 47) #[T,T,T,T,T,T,T,T,T,T,T,T,T,T,T,T,T,T,F,F,F,F,F,F,F,F,F,F,F,F,F] rfl rfl HT_.out ?_
                refine pU 18 (some 48) #[T,T,T,T,T,T,T,T,T,T,T,T,T,T,T,T,T,T,T,F,F,F,F,F,F,F,F,F,F,F,F] rfl rfl HT_.out ?_
                refine pU 19 (some 49) #[T,T,T,T,T,T,T,T,T,T,T,T,T,T,T,T,T,T,T,T,F,F,F,F,F,F,F,F,F,F,F] rfl rfl HT_.out ?_
                refine pV 20 (some 50) #[T,T,T,T,T,T,T,T,T,T,T,T,T,T,T,T,T,T,T,T,T,F,F,F,F,F,F,F,F,F,F] rfl rfl HT_.out ?_
                refine pV 21 (some 51) #[T,T,T,T,T,T,T,T,T,T,T,T,T,T,T,T,T,T,T,T,T,T,F,F,F,F,F,F,F,F,F] rfl rfl HT_.out ?_
                refine pV 22 (some 52) #[T,T,T,T,T,T,T,T,T,T,T,T,T,T,T,T,T,T,T,T,T,T,T,F,F,F,F,F,F,F,F] rfl rfl HT_.out ?_
                refine pV 23 (some 53) #[T,T,T,T,T,T,T,T,T,T,T,T,T,T,T,T,T,T,T,T,T,T,T,T,F,F,F,F,F,F,F] rfl rfl HT_.out ?_
                refine pV 24 (some 54) #[T,T,T,T,T,T,T,T,T,T,T,T,T,T,T,T,T,T,T,T,T,T,T,T,T,F,F,F,F,F,F] rfl rfl HT_.out ?_
                refine pV 25 (some 55) #[T,T,T,T,T,T,T,T,T,T,T,T,T,T,T,T,T,T,T,T,T,T,T,T,T,T,F,F,F,F,F] rfl rfl HT_.out ?_
                refine pV 26 (some 56) #[T,T,T,T,T,T,T,T,T,T,T,T,T,T,T,T,T,T,T,T,T,T,T,T,T,T,T,F,F,F,F] rfl rfl HT_.out ?_
                refine pV 27 (some 57) #[T,T,T,T,T,T,T,T,T,T,T,T,T,T,T,T,T,T,T,T,T,T,T,T,T,T,T,T,F,F,F] rfl rfl HT_.out ?_
                refine pV 28 (some 58) #[T,T,T,T,T,T,T,T,T,T,T,T,T,T,T,T,T,T,T,T,T,T,T,T,T,T,T,T,T,F,F] rfl rfl HT_.out ?_
                refine pV 29 (some 59) #[T,T,T,T,T,T,T,T,T,T,T,T,T,T,T,T,T,T,T,T,T,T,T,T,T,T,T,T,T,T,F] rfl rfl HT_.out ?_
                refine pU 30 (some 60) #[T,T,T,T,T,T,T,T,T,T,T,T,T,T,T,T,T,T,T,T,T,T,T,T,T,T,T,T,T,T,T] rfl rfl HT_.out ?_
                refine done_ (done_of HT_.out (by kernel_rfl)) ?_
                try go_wp2
                go_meet
                case rel => exact ⟨_, (true), nS, H', ⟨by have := HJ3.out; have := HK2.out; first | omega | exact Nat.le_refl _⟩, ⟨by (with_reducible repeat (first | refine blk_drewN ?_ _ | refine blk_drew ?_ | refine blk_alloc ?_ _)); exact BK231.out⟩, ⟨nH1 HB.out GE231.out⟩⟩
              · rw [if_neg c24] at H
                have c24b0 : decide (((rd_T48 l1 x25_2).f2) ≤ ((rd_T48 l1 x25_2).f1)) = false := decide_eq_false c24
                clear c24
                by_cases c27 : 0 ≤ ((rd_T48 l1 x25_2).f0)
                rotate_left
                · (rw [if_neg c27] at H; exact absurd H (by simp))
                rw [if_pos c27] at H
                have c27b0 : decide (0 ≤ ((rd_T48 l1 x25_2).f0)) = true := decide_eq_true c27
                clear c27
                by_cases c28 : ((rd_T48 l1 x25_2).f0) < (l0.length : Int)
                rotate_left
                · (rw [if_neg c28] at H; exact absurd H (by simp))
                rw [if_pos c28] at H
                have c28b0 : decide (((rd_T48 l1 x25_2).f0) < (l0.length : Int)) = true := decide_eq_true c28
                clear c28
                have H' := Aside0.mk H
                clear H
                try go_wp2
                have n0_ : Aside0 ((((w17.setCell ⟨gb231, 0, none⟩ (.int .i64 ((rd_T48 l1 x25_2).f0))).setCell ⟨gb231, 1, none⟩ (.int .i64 ((rd_T48 l1 x25_2).f1))).setCell ⟨gb231, 2, none⟩ (.int .i64 ((rd_T48 l1 x25_2).f2))).heap[gb231]? = some (.cells #[.int .i64 ((rd_T48 l1 x25_2).f0), .int .i64 ((rd_T48 l1 x25_2).f1), .int .i64 ((rd_T48 l1 x25_2).f2)] 48 (0, 0))) := ⟨by (with_reducible repeat (first | refine blk_drewN ?_ _ | refine blk_drew ?_ | refine blk_alloc ?_ _)); refine blk_put (cs := #[.int .i64 ((rd_T48 l1 x25_2).f0), .int .i64 ((rd_T48 l1 x25_2).f1), .int .i64 0]) ?_ 2 _ rfl; (with_reducible repeat (first | refine blk_drewN ?_ _ | refine blk_drew ?_ | refine blk_alloc ?_ _)); refine blk_put (cs := #[.int .i64 ((rd_T48 l1 x25_2).f0), .int .i64 0, .int .i64 0]) ?_ 1 _ rfl; (with_reducible repeat (first | refine blk_drewN ?_ _ | refine blk_drew ?_ | refine blk_alloc ?_ _)); refine blk_put (cs := #[.int .i64 0, .int .i64 0, .int .i64 0]) ?_ 0 _ rfl; (with_reducible repeat (first | refine blk_drewN ?_ _ | refine blk_drew ?_ | refine blk_alloc ?_ _)); exact BK231.out⟩
                have n1_ : Aside0 (Below w.heap.size w (((w17.setCell ⟨gb231, 0, none⟩ (.int .i64 ((rd_T48 l1 x25_2).f0))).setCell ⟨gb231, 1, none⟩ (.int .i64 ((rd_T48 l1 x25_2).f1))).setCell ⟨gb231, 2, none⟩ (.int .i64 ((rd_T48 l1 x25_2).f2)))) := ⟨nH1 HB.out GE231.out⟩
                (try clear BK231); (try clear HB)
                generalize (((w17.setCell ⟨gb231, 0, none⟩ (.int .i64 ((rd_T48 l1 x25_2).f0))).setCell ⟨gb231, 1, none⟩ (.int .i64 ((rd_T48 l1 x25_2).f1))).setCell ⟨gb231, 2, none⟩ (.int .i64 ((rd_T48 l1 x25_2).f2))) = w29 at n0_ n1_ ⊢
                have BK231 := n0_; have HB := n1_; clear n0_ n1_
                have n0_ := Aside0.mk (blk_drew BK231.out)
                have n1_ := Aside0.mk (below_drew1 HB.out)
                clear BK231; clear HB; have BK231 := n0_; have HB := n1_; clear n0_ n1_
                have p233 : 0 ≤ (((rd_T48 l1 x25_2).f0) : Int) := of_decide_eq_true nQ
                have q233 : ((rd_T48 l1 x25_2).f0) < (l0.length : Int) := of_decide_eq_true nQ
                obtain ⟨ad233, A233_1, c233_1, e233, hx233_0, hx233_1, hl233_1, hi233_1⟩ := at_T46 HR0.out ((rd_T48 l1 x25_2).f0) p233 q233
                have hw233_1 := hx233_1; have hw233_0 := hx233_0; cases e233
                replace hx233_0 := (HB.out.cell (World.block_lt_of_cell? w _ hx233_0)).trans hx233_0
                replace hx233_1 := (HB.out.cell (World.block_lt_of_cell? w _ hx233_1)).trans hx233_1
                have HR233_1 := Aside0.mk hi233_1
                have HC233_1 := Aside0.mk hl233_1
                clear hi233_1 hl233_1; replace p233 := eq_true p233; replace q233 := eq_true q233
                refine start_ (n := 31) (S := fun w' => w'.cell? ⟨gb231, 0, none⟩ = some (.int .i64 ((rd_T48 l1 x25_2).f0)) ∧ w'.cell? ⟨gb231, 1, none⟩ = some (.int .i64 ((rd_T48 l1 x25_2).f1)) ∧ w'.cell? ⟨gb231, 2, none⟩ = some (.int .i64 ((rd_T48 l1 x25_2).f2)) ∧ w'.cell? (ad233.add ((((rd_T48 l1 x25_2).f0)).toNat * 2)) = some (.string ((rd_T46 l0 ((rd_T48 l1 x25_2).f0)).f0)) ∧ w'.cell? ⟨(ad233.add ((((rd_T48 l1 x25_2).f0)).toNat * 2)).block, (ad233.add ((((rd_T48 l1 x25_2).f0)).toNat * 2)).off + 1, none⟩ = some (.slice A233_1 ((rd_T46 l0 ((rd_T48 l1 x25_2).f0)).f1).length c233_1)) (ds := []) #[F,F,F,F,F,F,F,F,F,F,F,F,F,F,F,F,F,F,F,F,F,F,F,F,F,F,F,F,F,F,F] (by kernel_rfl) rfl rfl ⟨(blk_cell BK231.out 0).trans rfl, (blk_cell BK231.out 1).trans rfl, (blk_cell BK231.out 2).trans rfl, (nC HB.out hw233_0 :), (nC HB.out hw233_1 :)⟩ (fun hHeld => ?_); refine with_tabW impl_LegsOk.tab6 impl_LegsOk.bits6 (fun HT_ HW_ => ?_)
                generalize w29.drew = w30 at BK231 HB HR233_1 hx233_0 hx233_1 hHeld ⊢
                refine pU 0 (some 30) #[T,F,F,F,F,F,F,F,F,F,F,F,F,F,F,F,F,F,F,F,F,F,F,F,F,F,F,F,F,F,F] rfl rfl HT_.out ?_
                refine pU 2 (some 32) #[T,F,T,F,F,F,F,F,F,F,F,F,F,F,F,F,F,F,F,F,F,F,F,F,F,F,F,F,F,F,F] rfl rfl HT_.out ?_
                refine pU 3 (some 33) #[T,F,T,T,F,F,F,F,F,F,F,F,F,F,F,F,F,F,F,F,F,F,F,F,F,F,F,F,F,F,F] rfl rfl HT_.out ?_
                refine pU 4 (some 34) #[T,F,T,T,T,F,F,F,F,F,F,F,F,F,F,F,F,F,F,F,F,F,F,F,F,F,F,F,F,F,F] rfl rfl HT_.out ?_
                refine tU5 1 (some 31) #[T,T,T,T,T,F,F,F,F,F,F,F,F,F,F,F,F,F,F,F,F,F,F,F,F,F,F,F,F,F,F] rfl rfl HT_.out HW_.out hHeld ?_
                refine one_ (i := 5) (N := some 35) #[T,T,T,T,T,T,F,F,F,F,F,F,F,F,F,F,F,F,F,F,F,F,F,F,F,F,F,F,F,F,F] rfl rfl (one_of HT_.out (by kernel_rfl)) (by decide) (fun K hK => ?_)
                refine goes_ Tryd.func44 (by kernel_rfl) rfl #[.int .i64 ((rd_T48 l1 x25_2).f0), .int .i64 0, .int .i64 (wrap64 ((l0.length : Int) - 1))] (by rfl) rfl rfl (by (try simp only [List.map_toArray, List.map_cons, List.map_nil]); first | done | rfl | (simp only [List.length_drop, List.length_take]; rfl)) ?_
                with_reducible refine (impl_between.calls ((rd_T48 l1 x25_2).f0) 0 (wrap64 ((l0.length : Int) - 1)) true _ A19.out).mono ?_
                rintro e w' ⟨rfl, ⟨nd, rfl⟩⟩
                refine ⟨_, rfl, ?_⟩
                refine hK.out _ _ ⟨(blk_cell BK231.out 0).trans rfl, (blk_cell BK231.out 1).trans rfl, (blk_cell BK231.out 2).trans rfl, (nC HB.out hw233_0 :), (nC HB.out hw233_1 :)⟩ (fun hHeld => ?_)
                clear hK K
                refine norm_ (a' := ?_) ?_ ?_
                rotate_left
                · show Act.put _ (some 35) _ = _
                  simp only [Act.put, List.setIfInBounds_toArray, List.set_cons_zero, List.set_cons_succ, i64_w, i32_w]
                  rfl
                refine pU 6 (some 36) #[T,T,T,T,T,T,T,F,F,F,F,F,F,F,F,F,F,F,F,F,F,F,F,F,F,F,F,F,F,F,F] rfl rfl HT_.out ?_
                refine pU 7 (some 37) #[T,T,T,T,T,T,T,T,F,F,F,F,F,F,F,F,F,F,F,F,F,F,F,F,F,F,F,F,F,F,F] rfl rfl HT_.out ?_
                refine pU 8 (some 38) #[T,T,T,T,T,T,T,T,T,F,F,F,F,F,F,F,F,F,F,F,F,F,F,F,F,F,F,F,F,F,F] rfl rfl HT_.out ?_
                refine tU5 9 (some 39) #[T,T,T,T,T,T,T,T,T,T,F,F,F,F,F,F,F,F,F,F,F,F,F,F,F,F,F,F,F,F,F] rfl rfl HT_.out HW_.out hHeld ?_
                refine pU 10 (some 40) #[T,T,T,T,T,T,T,T,T,T,T,F,F,F,F,F,F,F,F,F,F,F,F,F,F,F,F,F,F,F,F] rfl rfl HT_.out ?_
                refine pU 11 (some 41) #[T,T,T,T,T,T,T,T,T,T,T,T,F,F,F,F,F,F,F,F,F,F,F,F,F,F,F,F,F,F,F] rfl rfl HT_.out ?_
                refine pU 12 (some 42) #[T,T,T,T,T,T,T,T,T,T,T,T,T,F,F,F,F,F,F,F,F,F,F,F,F,F,F,F,F,F,F] rfl rfl HT_.out ?_
                refine pU 13 (some 43) #[T,T,T,T,T,T,T,T,T,T,T,T,T,T,F,F,F,F,F,F,F,F,F,F,F,F,F,F,F,F,F] rfl rfl HT_.out ?_
                refine pU 15 (some 45) #[T,T,T,T,T,T,T,T,T,T,T,T,T,T,F,T,F,F,F,F,F,F,F,F,F,F,F,F,F,F,F] rfl rfl HT_.out ?_
                refine tU5 14 (some 44) #[T,T,T,T,T,T,T,T,T,T,T,T,T,T,T,T,F,F,F,F,F,F,F,F,F,F,F,F,F,F,F] rfl rfl HT_.out HW_.out hHeld ?_
                refine tU5 16 (some 46) #[T,T,T,T,T,T,T,T,T,T,T,T,T,T,T,T,T,F,F,F,F,F,F,F,F,F,F,F,F,F,F] rfl rfl HT_.out HW_.out hHeld ?_
                refine pU 17 (some 47) #[T,T,T,T,T,T,T,T,T,T,T,T,T,T,T,T,T,T,F,F,F,F,F,F,F,F,F,F,F,F,F] rfl rfl HT_.out ?_
                refine pU 18 (some 48) #[T,T,T,T,T,T,T,T,T,T,T,T,T,T,T,T,T,T,T,F,F,F,F,F,F,F,F,F,F,F,F] rfl rfl HT_.out ?_
                refine pU 19 (some 49) #[T,T,T,T,T,T,T,T,T,T,T,T,T,T,T,T,T,T,T,T,F,F,F,F,F,F,F,F,F,F,F] rfl rfl HT_.out ?_
                refine pU 20 (some 50) #[T,T,T,T,T,T,T,T,T,T,T,T,T,T,T,T,T,T,T,T,T,F,F,F,F,F,F,F,F,F,F] rfl rfl HT_.out ?_
                refine pU 22 (some 52) #[T,T,T,T,T,T,T,T,T,T,T,T,T,T,T,T,T,T,T,T,T,F,T,F,F,F,F,F,F,F,F] rfl rfl HT_.out ?_
                refine pU 23 (some 53) #[T,T,T,T,T,T,T,T,T,T,T,T,T,T,T,T,T,T,T,T,T,F,T,T,F,F,F,F,F,F,F] rfl rfl HT_.out ?_
                refine tU5 21 (some 51) #[T,T,T,T,T,T,T,T,T,T,T,T,T,T,T,T,T,T,T,T,T,T,T,T,F,F,F,F,F,F,F] rfl rfl HT_.out HW_.out hHeld ?_
                refine tU5 24 (some 54) #[T,T,T,T,T,T,T,T,T,T,T,T,T,T,T,T,T,T,T,T,T,T,T,T,T,F,F,F,F,F,F] rfl rfl HT_.out HW_.out hHeld ?_
                refine pU 25 (some 55) #[T,T,T,T,T,T,T,T,T,T,T,T,T,T,T,T,T,T,T,T,T,T,T,T,T,T,F,F,F,F,F] rfl rfl HT_.out ?_
                refine pU 26 (some 56) #[T,T,T,T,T,T,T,T,T,T,T,T,T,T,T,T,T,T,T,T,T,T,T,T,T,T,T,F,F,F,F] rfl rfl HT_.out ?_
                refine tU5 27 (some 57) #[T,T,T,T,T,T,T,T,T,T,T,T,T,T,T,T,T,T,T,T,T,T,T,T,T,T,T,T,F,F,F] rfl rfl HT_.out HW_.out hHeld ?_
                refine pU 28 (some 58) #[T,T,T,T,T,T,T,T,T,T,T,T,T,T,T,T,T,T,T,T,T,T,T,T,T,T,T,T,T,F,F] rfl rfl HT_.out ?_
                refine pU 29 (some 59) #[T,T,T,T,T,T,T,T,T,T,T,T,T,T,T,T,T,T,T,T,T,T,T,T,T,T,T,T,T,T,F] rfl rfl HT_.out ?_
                refine pU 30 (some 60) #[T,T,T,T,T,T,T,T,T,T,T,T,T,T,T,T,T,T,T,T,T,T,T,T,T,T,T,T,T,T,T] rfl rfl HT_.out ?_
                refine done_ (done_of HT_.out (by kernel_rfl)) ?_
                try go_wp2
                go_meet
                case rel => exact ⟨_, (decide (((rd_T48 l1 x25_2).f2) ≥ (((rd_T46 l0 ((rd_T48 l1 x25_2).f0)).f1).length : Int))), nS, H', ⟨by have := HJ3.out; have := HK2.out; first | omega | exact Nat.le_refl _⟩, ⟨by (with_reducible repeat (first | refine blk_drewN ?_ _ | refine blk_drew ?_ | refine blk_alloc ?_ _)); exact BK231.out⟩, ⟨nH1 HB.out GE231.out⟩⟩
          · replace c20 := Bool.eq_false_iff.mpr c20
            subst c20
            have H1 : (impl_LegsOk.j2 k2 l0 l1 a2 x25_2 l1 (l1.length : Int) x25_2 true ((rd_T48 l1 x25_2).f0) ((rd_T48 l1 x25_2).f1) ((rd_T48 l1 x25_2).f2)) = some r := by rw [if_neg (show ¬ (false = true) by decide)] at H; exact H
            clear H; have H := H1; clear H1
            have H' := Aside0.mk H
            clear H
            try go_wp2
            have n0_ : Aside0 ((((w17.setCell ⟨gb231, 0, none⟩ (.int .i64 ((rd_T48 l1 x25_2).f0))).setCell ⟨gb231, 1, none⟩ (.int .i64 ((rd_T48 l1 x25_2).f1))).setCell ⟨gb231, 2, none⟩ (.int .i64 ((rd_T48 l1 x25_2).f2))).heap[gb231]? = some (.cells #[.int .i64 ((rd_T48 l1 x25_2).f0), .int .i64 ((rd_T48 l1 x25_2).f1), .int .i64 ((rd_T48 l1 x25_2).f2)] 48 (0, 0))) := ⟨by (with_reducible repeat (first | refine blk_drewN ?_ _ | refine blk_drew ?_ | refine blk_alloc ?_ _)); refine blk_put (cs := #[.int .i64 ((rd_T48 l1 x25_2).f0), .int .i64 ((rd_T48 l1 x25_2).f1), .int .i64 0]) ?_ 2 _ rfl; (with_reducible repeat (first | refine blk_drewN ?_ _ | refine blk_drew ?_ | refine blk_alloc ?_ _)); refine blk_put (cs := #[.int .i64 ((rd_T48 l1 x25_2).f0), .int .i64 0, .int .i64 0]) ?_ 1 _ rfl; (with_reducible repeat (first | refine blk_drewN ?_ _ | refine blk_drew ?_ | refine blk_alloc ?_ _)); refine blk_put (cs := #[.int .i64 0, .int .i64 0, .int .i64 0]) ?_ 0 _ rfl; (with_reducible repeat (first | refine blk_drewN ?_ _ | refine blk_drew ?_ | refine blk_alloc ?_ _)); exact BK231.out⟩
            have n1_ : Aside0 (Below w.heap.size w (((w17.setCell ⟨gb231, 0, none⟩ (.int .i64 ((rd_T48 l1 x25_2).f0))).setCell ⟨gb231, 1, none⟩ (.int .i64 ((rd_T48 l1 x25_2).f1))).setCell ⟨gb231, 2, none⟩ (.int .i64 ((rd_T48 l1 x25_2).f2)))) := ⟨nH1 HB.out GE231.out⟩
            (try clear BK231); (try clear HB)
            generalize (((w17.setCell ⟨gb231, 0, none⟩ (.int .i64 ((rd_T48 l1 x25_2).f0))).setCell ⟨gb231, 1, none⟩ (.int .i64 ((rd_T48 l1 x25_2).f1))).setCell ⟨gb231, 2, none⟩ (.int .i64 ((rd_T48 l1 x25_2).f2))) = w31 at n0_ n1_ ⊢
            have BK231 := n0_; have HB := n1_; clear n0_ n1_
            have n0_ := Aside0.mk (blk_drew BK231.out)
            have n1_ := Aside0.mk (below_drew1 HB.out)
            clear BK231; clear HB; have BK231 := n0_; have HB := n1_; clear n0_ n1_
            refine start_ (n := 31) (S := fun w' => w'.cell? ⟨gb231, 0, none⟩ = some (.int .i64 ((rd_T48 l1 x25_2).f0)) ∧ w'.cell? ⟨gb231, 1, none⟩ = some (.int .i64 ((rd_T48 l1 x25_2).f1)) ∧ w'.cell? ⟨gb231, 2, none⟩ = some (.int .i64 ((rd_T48 l1 x25_2).f2))) (ds := []) #[F,F,F,F,F,F,F,F,F,F,F,F,F,F,F,F,F,F,F,F,F,F,F,F,F,F,F,F,F,F,F] (by kernel_rfl) rfl rfl ⟨(blk_cell BK231.out 0).trans rfl, (blk_cell BK231.out 1).trans rfl, (blk_cell BK231.out 2).trans rfl⟩ (fun hHeld => ?_); refine with_tabW impl_LegsOk.tab6 impl_LegsOk.bits6 (fun HT_ HW_ => ?_)
            generalize w31.drew = w32 at BK231 HB hHeld ⊢
            refine pU 0 (some 30) #[T,F,F,F,F,F,F,F,F,F,F,F,F,F,F,F,F,F,F,F,F,F,F,F,F,F,F,F,F,F,F] rfl rfl HT_.out ?_
            refine pU 2 (some 32) #[T,F,T,F,F,F,F,F,F,F,F,F,F,F,F,F,F,F,F,F,F,F,F,F,F,F,F,F,F,F,F] rfl rfl HT_.out ?_
            refine pU 3 (some 33) #[T,F,T,T,F,F,F,F,F,F,F,F,F,F,F,F,F,F,F,F,F,F,F,F,F,F,F,F,F,F,F] rfl rfl HT_.out ?_
            refine pU 4 (some 34) #[T,F,T,T,T,F,F,F,F,F,F,F,F,F,F,F,F,F,F,F,F,F,F,F,F,F,F,F,F,F,F] rfl rfl HT_.out ?_
            refine tU3 1 (some 31) #[T,T,T,T,T,F,F,F,F,F,F,F,F,F,F,F,F,F,F,F,F,F,F,F,F,F,F,F,F,F,F] rfl rfl HT_.out HW_.out hHeld ?_
            refine one_ (i := 5) (N := some 35) #[T,T,T,T,T,T,F,F,F,F,F,F,F,F,F,F,F,F,F,F,F,F,F,F,F,F,F,F,F,F,F] rfl rfl (one_of HT_.out (by kernel_rfl)) (by decide) (fun K hK => ?_)
            refine goes_ Tryd.func44 (by kernel_rfl) rfl #[.int .i64 ((rd_T48 l1 x25_2).f0), .int .i64 0, .int .i64 (wrap64 ((l0.length : Int) - 1))] (by rfl) rfl rfl (by (try simp only [List.map_toArray, List.map_cons, List.map_nil]); first | done | rfl | (simp only [List.length_drop, List.length_take]; rfl)) ?_
            with_reducible refine (impl_between.calls ((rd_T48 l1 x25_2).f0) 0 (wrap64 ((l0.length : Int) - 1)) false _ A19.out).mono ?_
            rintro e w' ⟨rfl, ⟨nd, rfl⟩⟩
            refine ⟨_, rfl, ?_⟩
            refine hK.out _ _ ⟨(blk_cell BK231.out 0).trans rfl, (blk_cell BK231.out 1).trans rfl, (blk_cell BK231.out 2).trans rfl⟩ (fun hHeld => ?_)
            clear hK K
            refine norm_ (a' := ?_) ?_ ?_
            rotate_left
            · show Act.put _ (some 35) _ = _
              simp only [Act.put, List.setIfInBounds_toArray, List.set_cons_zero, List.set_cons_succ, i64_w, i32_w]
              rfl
            refine pU 6 (some 36) #[T,T,T,T,T,T,T,F,F,F,F,F,F,F,F,F,F,F,F,F,F,F,F,F,F,F,F,F,F,F,F] rfl rfl HT_.out ?_
            refine pU 7 (some 37) #[T,T,T,T,T,T,T,T,F,F,F,F,F,F,F,F,F,F,F,F,F,F,F,F,F,F,F,F,F,F,F] rfl rfl HT_.out ?_
            refine pV 8 (some 38) #[T,T,T,T,T,T,T,T,T,F,F,F,F,F,F,F,F,F,F,F,F,F,F,F,F,F,F,F,F,F,F] rfl rfl HT_.out ?_
            refine pV 9 (some 39) #[T,T,T,T,T,T,T,T,T,T,F,F,F,F,F,F,F,F,F,F,F,F,F,F,F,F,F,F,F,F,F] rfl rfl HT_.out ?_
            refine pV 10 (some 40) #[T,T,T,T,T,T,T,T,T,T,T,F,F,F,F,F,F,F,F,F,F,F,F,F,F,F,F,F,F,F,F] rfl rfl HT_.out ?_
            refine pU 11 (some 41) #[T,T,T,T,T,T,T,T,T,T,T,T,F,F,F,F,F,F,F,F,F,F,F,F,F,F,F,F,F,F,F] rfl rfl HT_.out ?_
            refine pU 12 (some 42) #[T,T,T,T,T,T,T,T,T,T,T,T,T,F,F,F,F,F,F,F,F,F,F,F,F,F,F,F,F,F,F] rfl rfl HT_.out ?_
            refine pV 13 (some 43) #[T,T,T,T,T,T,T,T,T,T,T,T,T,T,F,F,F,F,F,F,F,F,F,F,F,F,F,F,F,F,F] rfl rfl HT_.out ?_
            refine pV 14 (some 44) #[T,T,T,T,T,T,T,T,T,T,T,T,T,T,T,F,F,F,F,F,F,F,F,F,F,F,F,F,F,F,F] rfl rfl HT_.out ?_
            refine pV 15 (some 45) #[T,T,T,T,T,T,T,T,T,T,T,T,T,T,T,T,F,F,F,F,F,F,F,F,F,F,F,F,F,F,F] rfl rfl HT_.out ?_
            refine pV 16 (some 46) #[T,T,T,T,T,T,T,T,T,T,T,T,T,T,T,T,T,F,F,F,F,F,F,F,F,F,F,F,F,F,F] rfl rfl HT_.out ?_
            refine pV 17 (some 47) #[T,T,T,T,T,T,T,T,T,T,T,T,T,T,T,T,T,T,F,F,F,F,F,F,F,F,F,F,F,F,F] rfl rfl HT_.out ?_
            refine pU 18 (some 48) #[T,T,T,T,T,T,T,T,T,T,T,T,T,T,T,T,T,T,T,F,F,F,F,F,F,F,F,F,F,F,F] rfl rfl HT_.out ?_
            refine pU 19 (some 49) #[T,T,T,T,T,T,T,T,T,T,T,T,T,T,T,T,T,T,T,T,F,F,F,F,F,F,F,F,F,F,F] rfl rfl HT_.out ?_
            refine pV 20 (some 50) #[T,T,T,T,T,T,T,T,T,T,T,T,T,T,T,T,T,T,T,T,T,F,F,F,F,F,F,F,F,F,F] rfl rfl HT_.out ?_
            refine pV 21 (some 51) #[T,T,T,T,T,T,T,T,T,T,T,T,T,T,T,T,T,T,T,T,T,T,F,F,F,F,F,F,F,F,F] rfl rfl HT_.out ?_
            refine pV 22 (some 52) #[T,T,T,T,T,T,T,T,T,T,T,T,T,T,T,T,T,T,T,T,T,T,T,F,F,F,F,F,F,F,F] rfl rfl HT_.out ?_
            refine pV 23 (some 53) #[T,T,T,T,T,T,T,T,T,T,T,T,T,T,T,T,T,T,T,T,T,T,T,T,F,F,F,F,F,F,F] rfl rfl HT_.out ?_
            refine pV 24 (some 54) #[T,T,T,T,T,T,T,T,T,T,T,T,T,T,T,T,T,T,T,T,T,T,T,T,T,F,F,F,F,F,F] rfl rfl HT_.out ?_
            refine pV 25 (some 55) #[T,T,T,T,T,T,T,T,T,T,T,T,T,T,T,T,T,T,T,T,T,T,T,T,T,T,F,F,F,F,F] rfl rfl HT_.out ?_
            refine pV 26 (some 56) #[T,T,T,T,T,T,T,T,T,T,T,T,T,T,T,T,T,T,T,T,T,T,T,T,T,T,T,F,F,F,F] rfl rfl HT_.out ?_
            refine pV 27 (some 57) #[T,T,T,T,T,T,T,T,T,T,T,T,T,T,T,T,T,T,T,T,T,T,T,T,T,T,T,T,F,F,F] rfl rfl HT_.out ?_
            refine pV 28 (some 58) #[T,T,T,T,T,T,T,T,T,T,T,T,T,T,T,T,T,T,T,T,T,T,T,T,T,T,T,T,T,F,F] rfl rfl HT_.out ?_
            refine pV 29 (some 59) #[T,T,T,T,T,T,T,T,T,T,T,T,T,T,T,T,T,T,T,T,T,T,T,T,T,T,T,T,T,T,F] rfl rfl HT_.out ?_
            refine pU 30 (some 60) #[T,T,T,T,T,T,T,T,T,T,T,T,T,T,T,T,T,T,T,T,T,T,T,T,T,T,T,T,T,T,T] rfl rfl HT_.out ?_
            refine done_ (done_of HT_.out (by kernel_rfl)) ?_
            try go_wp2
            go_meet
            case rel => exact ⟨_, (true), nS, H', ⟨by have := HJ3.out; have := HK2.out; first | omega | exact Nat.le_refl _⟩, ⟨by (with_reducible repeat (first | refine blk_drewN ?_ _ | refine blk_drew ?_ | refine blk_alloc ?_ _)); exact BK231.out⟩, ⟨nH1 HB.out GE231.out⟩⟩
         case rest =>
          clear HC16; try clear c2; try clear p2; try clear q2; try clear hx2; try clear c4; try clear p6; try clear c20; try clear c23; try clear p23; try clear q23; try clear hx23; try clear c24; try clear c24b0; try clear c27; try clear c27b0; try clear c28; try clear c28b0; try clear hx233_0; try clear hx233_1; try clear p233; try clear q233
          obtain ⟨kq, x60_15, rfl, HA, HJ15, BK231, HB⟩ := hcut
          cases kq with
          | zero => exact absurd HA.out (by simp [impl_LegsOk.j2])
          | succ kj15 =>
           have H := HA.out; clear HA
           simp only [impl_LegsOk.j2] at H
           by_cases c33 : x60_15 = true
           · subst c33
             have H1 : (some false) = some r := by rw [if_pos rfl] at H; exact H
             clear H; have H := H1; clear H1; obtain rfl := Option.some.inj H; go_wp2; go_ret
             exact ⟨by first | rfl | (simp [errW_none, errW_some] <;> rfl) | (simp [*, errW_none, errW_some] <;> first | rfl | (simp [wrap64]; done)), nH1 HB.out GE231.out⟩
           · replace c33 := Bool.eq_false_iff.mpr c33
             subst c33
             have H1 : (if x25_2 = 0 then (impl_LegsOk.l0 kj15 l0 l1 a2 l1 (l1.length : Int) (wrap64 (x25_2 + 1))) else (if 0 ≤ (wrap64 (x25_2 - 1)) then (if (wrap64 (x25_2 - 1)) < (l1.length : Int) then (if 0 ≤ ((rd_T48 l1 x25_2).f0) then (if ((rd_T48 l1 x25_2).f0) < (l0.length : Int) then (if 0 ≤ ((rd_T48 l1 x25_2).f1) then (if ((rd_T48 l1 x25_2).f1) < (((rd_T46 l0 ((rd_T48 l1 x25_2).f0)).f1).length : Int) then ((impl_ends.f l0 ((rd_T48 l1 (wrap64 (x25_2 - 1))).f0) ((rd_T48 l1 (wrap64 (x25_2 - 1))).f1) ((rd_T48 l1 (wrap64 (x25_2 - 1))).f2)).bind fun t238 => (if ((rd_T43 ((rd_T46 l0 ((rd_T48 l1 x25_2).f0)).f1) ((rd_T48 l1 x25_2).f1)).f0) = t238 then ((impl_leaves.f l0 ((rd_T48 l1 x25_2).f0) ((rd_T48 l1 x25_2).f1) ((rd_T48 l1 x25_2).f2)).bind fun t239 => ((impl_arrives.f l0 ((rd_T48 l1 (wrap64 (x25_2 - 1))).f0) ((rd_T48 l1 (wrap64 (x25_2 - 1))).f1) ((rd_T48 l1 (wrap64 (x25_2 - 1))).f2)).bind fun t240 => (if t239 < (wrap64 (t240 + a2)) then (some false) else (impl_LegsOk.l0 kj15 l0 l1 a2 l1 (l1.length : Int) (wrap64 (x25_2 + 1)))))) else (some false))) else (none)) else (none)) else (none)) else (none)) else (none)) else (none))) = some r := by rw [if_neg (show ¬ (false = true) by decide)] at H; exact H
             clear H; have H := H1; clear H1
             by_cases c34 : x25_2 = 0
             · rw [if_pos c34] at H
               have c34b0 : (x25_2 == 0) = true := beq_iff_eq.mpr c34
               have c34b1 : (x25_2 != 0) = false := bne_eq_false_iff_eq.mpr c34
               clear c34
               have H' := Aside0.mk H
               clear H; go_wp2
               go_roundg kj15
               case measure => have := HJ3.out; have := HK2.out; have := HJ15.out; omega
               case rel => exact ⟨(wrap64 (x25_2 + 1)), nS, H', ⟨by have := HJ3.out; have := HK2.out; have := HJ15.out; omega⟩, ⟨nH1 HB.out GE231.out⟩⟩
             · rw [if_neg c34] at H
               have c34b0 : (x25_2 == 0) = false := beq_eq_false_iff_ne.mpr c34
               have c34b1 : (x25_2 != 0) = true := bne_iff_ne.mpr c34
               obtain ⟨ji35, hji35⟩ : ∃ j_ : Int, (wrap64 (x25_2 - 1)) = j_ := ⟨_, rfl⟩
               replace H : (if 0 ≤ (ji35) then (if (ji35) < (l1.length : Int) then (if 0 ≤ ((rd_T48 l1 x25_2).f0) then (if ((rd_T48 l1 x25_2).f0) < (l0.length : Int) then (if 0 ≤ ((rd_T48 l1 x25_2).f1) then (if ((rd_T48 l1 x25_2).f1) < (((rd_T46 l0 ((rd_T48 l1 x25_2).f0)).f1).length : Int) then ((impl_ends.f l0 ((rd_T48 l1 (ji35)).f0) ((rd_T48 l1 (ji35)).f1) ((rd_T48 l1 (ji35)).f2)).bind fun t238 => (if ((rd_T43 ((rd_T46 l0 ((rd_T48 l1 x25_2).f0)).f1) ((rd_T48 l1 x25_2).f1)).f0) = t238 then ((impl_leaves.f l0 ((rd_T48 l1 x25_2).f0) ((rd_T48 l1 x25_2).f1) ((rd_T48 l1 x25_2).f2)).bind fun t239 => ((impl_arrives.f l0 ((rd_T48 l1 (ji35)).f0) ((rd_T48 l1 (ji35)).f1) ((rd_T48 l1 (ji35)).f2)).bind fun t240 => (if t239 < (wrap64 (t240 + a2)) then (some false) else (impl_LegsOk.l0 kj15 l0 l1 a2 l1 (l1.length : Int) (wrap64 (x25_2 + 1)))))) else (some false))) else (none)) else (none)) else (none)) else (none)) else (none)) else (none)) = some r := by first | (rw [hji35] at H; exact H) | (simp only [hji35] at H ⊢; exact H)
               have hji35w : (IntKind.i64.wrap (x25_2 - 1)) = ji35 := (i64_w _).trans hji35
               by_cases c36 : 0 ≤ (ji35)
               rotate_left
               · (rw [if_neg c36] at H; exact absurd H (by simp))
               rw [if_pos c36] at H
               have c36b0 : decide (0 ≤ (ji35)) = true := decide_eq_true c36
               clear c36
               by_cases c37 : (ji35) < (l1.length : Int)
               rotate_left
               · (rw [if_neg c37] at H; exact absurd H (by simp))
               rw [if_pos c37] at H
               have c37b0 : decide ((ji35) < (l1.length : Int)) = true := decide_eq_true c37
               clear c37
               by_cases c38 : 0 ≤ ((rd_T48 l1 x25_2).f0)
               rotate_left
               · (rw [if_neg c38] at H; exact absurd H (by simp))
               rw [if_pos c38] at H
               have c38b0 : decide (0 ≤ ((rd_T48 l1 x25_2).f0)) = true := decide_eq_true c38
               clear c38
               by_cases c39 : ((rd_T48 l1 x25_2).f0) < (l0.length : Int)
               rotate_left
               · (rw [if_neg c39] at H; exact absurd H (by simp))
               rw [if_pos c39] at H
               have c39b0 : decide (((rd_T48 l1 x25_2).f0) < (l0.length : Int)) = true := decide_eq_true c39
               clear c39
               by_cases c40 : 0 ≤ ((rd_T48 l1 x25_2).f1)
               rotate_left
               · (rw [if_neg c40] at H; exact absurd H (by simp))
               rw [if_pos c40] at H
               have c40b0 : decide (0 ≤ ((rd_T48 l1 x25_2).f1)) = true := decide_eq_true c40
               clear c40
               by_cases c41 : ((rd_T48 l1 x25_2).f1) < (((rd_T46 l0 ((rd_T48 l1 x25_2).f0)).f1).length : Int)
               rotate_left
               · (rw [if_neg c41] at H; exact absurd H (by simp))
               rw [if_pos c41] at H
               have c41b0 : decide (((rd_T48 l1 x25_2).f1) < (((rd_T46 l0 ((rd_T48 l1 x25_2).f0)).f1).length : Int)) = true := decide_eq_true c41
               clear c41
               replace H := Option.bind_eq_some_iff.mp H
               obtain ⟨t238, A420, H⟩ := H
               replace H : (if ((rd_T43 ((rd_T46 l0 ((rd_T48 l1 x25_2).f0)).f1) ((rd_T48 l1 x25_2).f1)).f0) = t238 then ((impl_leaves.f l0 ((rd_T48 l1 x25_2).f0) ((rd_T48 l1 x25_2).f1) ((rd_T48 l1 x25_2).f2)).bind fun t239 => ((impl_arrives.f l0 ((rd_T48 l1 (ji35)).f0) ((rd_T48 l1 (ji35)).f1) ((rd_T48 l1 (ji35)).f2)).bind fun t240 => (if t239 < (wrap64 (t240 + a2)) then (some false) else (impl_LegsOk.l0 kj15 l0 l1 a2 l1 (l1.length : Int) (wrap64 (x25_2 + 1)))))) else (some false)) = some r := H
               have A42 := Aside0.mk A420
               clear A420
               by_cases c43 : ((rd_T43 ((rd_T46 l0 ((rd_T48 l1 x25_2).f0)).f1) ((rd_T48 l1 x25_2).f1)).f0) = t238
               · rw [if_pos c43] at H
                 have c43b0 : (((rd_T43 ((rd_T46 l0 ((rd_T48 l1 x25_2).f0)).f1) ((rd_T48 l1 x25_2).f1)).f0) == t238) = true := beq_iff_eq.mpr c43
                 have c43b1 : (((rd_T43 ((rd_T46 l0 ((rd_T48 l1 x25_2).f0)).f1) ((rd_T48 l1 x25_2).f1)).f0) != t238) = false := bne_eq_false_iff_eq.mpr c43
                 clear c43
                 replace H := Option.bind_eq_some_iff.mp H
                 obtain ⟨t239, A440, H⟩ := H
                 replace H : ((impl_arrives.f l0 ((rd_T48 l1 (ji35)).f0) ((rd_T48 l1 (ji35)).f1) ((rd_T48 l1 (ji35)).f2)).bind fun t240 => (if t239 < (wrap64 (t240 + a2)) then (some false) else (impl_LegsOk.l0 kj15 l0 l1 a2 l1 (l1.length : Int) (wrap64 (x25_2 + 1))))) = some r := H
                 have A44 := Aside0.mk A440
                 clear A440
                 replace H := Option.bind_eq_some_iff.mp H
                 obtain ⟨t240, A450, H⟩ := H
                 replace H : (if t239 < (wrap64 (t240 + a2)) then (some false) else (impl_LegsOk.l0 kj15 l0 l1 a2 l1 (l1.length : Int) (wrap64 (x25_2 + 1)))) = some r := H
                 have A45 := Aside0.mk A450
                 clear A450
                 by_cases c46 : t239 < (wrap64 (t240 + a2))
                 · rw [if_pos c46] at H
                   have c46b0 : decide (t239 < (wrap64 (t240 + a2))) = true := decide_eq_true c46
                   clear c46; obtain rfl := Option.some.inj H
                   have p234 : 0 ≤ ((ji35) : Int) := of_decide_eq_true nQ
                   have q234 : (ji35) < (l1.length : Int) := of_decide_eq_true nQ
                   obtain ⟨ad234, e234, hx234_0, hx234_1, hx234_2⟩ := at_T48 HR1.out (ji35) p234 q234
                   obtain rfl : ad230 = ad234 := (by injection e234)
                   replace hx234_0 := (HB.out.cell (World.block_lt_of_cell? w _ hx234_0)).trans hx234_0
                   replace hx234_1 := (HB.out.cell (World.block_lt_of_cell? w _ hx234_1)).trans hx234_1
                   replace hx234_2 := (HB.out.cell (World.block_lt_of_cell? w _ hx234_2)).trans hx234_2
                   replace p234 := eq_true p234; replace q234 := eq_true q234
                   try go_wp2_with (first | ((with_reducible refine gate_dst (N := 9) rfl ?_); (try (refine gate_guard (by rfl) ?_; dsimp only)); refine box_event ?hg (N := 9) ?hd (cs := #[.int .i64 0, .int .i64 0, .int .i64 0]) (t := 48) ?hr ?_; (case hd => rfl); (case hg => rfl); (case hr => first | (go_simp; done) | (go_simp; rfl)); intro gb235 hg w47 hbox hb; have n0_ := Aside0.mk (blk_below (g := gb231) (o := .cells #[.int .i64 ((rd_T48 l1 x25_2).f0), .int .i64 ((rd_T48 l1 x25_2).f1), .int .i64 ((rd_T48 l1 x25_2).f2)] 48 (0, 0)) (nB BK231.out) hb); have n1_ := Aside0.mk (below_step (nH1 HB.out GE231.out) hb); have n2_ := Aside0.mk (hbox); have n3_ := Aside0.mk ((by rw [hg]; exact (below_size (nH1 HB.out GE231.out)) : w.heap.size ≤ gb235)); have n4_ := Aside0.mk ((by rw [hg]; exact (below_size (nH1 HB.out GE231.out)) : w.heap.size ≤ gb235)); have n5_ := Aside0.mk ((by rw [hg]; exact Nat.ne_of_lt (blk_lt (g := gb231) (o := .cells #[.int .i64 ((rd_T48 l1 x25_2).f0), .int .i64 ((rd_T48 l1 x25_2).f1), .int .i64 ((rd_T48 l1 x25_2).f2)] 48 (0, 0)) (nB BK231.out)) : gb231 ≠ gb235)); have n6_ := Aside0.mk ((by rw [hg]; exact Nat.ne_of_gt (blk_lt (g := gb231) (o := .cells #[.int .i64 ((rd_T48 l1 x25_2).f0), .int .i64 ((rd_T48 l1 x25_2).f1), .int .i64 ((rd_T48 l1 x25_2).f2)] 48 (0, 0)) (nB BK231.out)) : gb235 ≠ gb231)); clear BK231; clear HB; have BK231 := n0_; have HB := n1_; have BK235 := n2_; have GW235 := n3_; have GE235 := n4_; have NB231_235 := n5_; have NB235_231 := n6_; clear n0_ n1_ n2_ n3_ n4_ n5_ n6_; clear hb hbox hg; have hnb48 := NB235_231.out; have hnc48 := NB231_235.out; have hcz49_0 : w47.cell? ⟨gb235, 0, none⟩ = some (.int .i64 0) := (blk_cell BK235.out 0).trans rfl; have hcz49_1 : w47.cell? ⟨gb235, 1, none⟩ = some (.int .i64 0) := (blk_cell BK235.out 1).trans rfl; have hcz49_2 : w47.cell? ⟨gb235, 2, none⟩ = some (.int .i64 0) := (blk_cell BK235.out 2).trans rfl; have hfz49_0 := blk_frozen BK235.out 0; have hfz49_1 := blk_frozen BK235.out 1; have hfz49_2 := blk_frozen BK235.out 2))
                   have n0_ : Aside0 ((((w47.setCell ⟨gb235, 0, none⟩ (.int .i64 ((rd_T48 l1 (ji35)).f0))).setCell ⟨gb235, 1, none⟩ (.int .i64 ((rd_T48 l1 (ji35)).f1))).setCell ⟨gb235, 2, none⟩ (.int .i64 ((rd_T48 l1 (ji35)).f2))).heap[gb231]? = some (.cells #[.int .i64 ((rd_T48 l1 x25_2).f0), .int .i64 ((rd_T48 l1 x25_2).f1), .int .i64 ((rd_T48 l1 x25_2).f2)] 48 (0, 0))) := ⟨by (with_reducible repeat (first | refine blk_drewN ?_ _ | refine blk_drew ?_ | refine blk_alloc ?_ _)); refine blk_far ?_ NB231_235.out _; (with_reducible repeat (first | refine blk_drewN ?_ _ | refine blk_drew ?_ | refine blk_alloc ?_ _)); refine blk_far ?_ NB231_235.out _; (with_reducible repeat (first | refine blk_drewN ?_ _ | refine blk_drew ?_ | refine blk_alloc ?_ _)); refine blk_far ?_ NB231_235.out _; (with_reducible repeat (first | refine blk_drewN ?_ _ | refine blk_drew ?_ | refine blk_alloc ?_ _)); exact BK231.out⟩
                   have n1_ : Aside0 ((((w47.setCell ⟨gb235, 0, none⟩ (.int .i64 ((rd_T48 l1 (ji35)).f0))).setCell ⟨gb235, 1, none⟩ (.int .i64 ((rd_T48 l1 (ji35)).f1))).setCell ⟨gb235, 2, none⟩ (.int .i64 ((rd_T48 l1 (ji35)).f2))).heap[gb235]? = some (.cells #[.int .i64 ((rd_T48 l1 (ji35)).f0), .int .i64 ((rd_T48 l1 (ji35)).f1), .int .i64 ((rd_T48 l1 (ji35)).f2)] 48 (0, 0))) := ⟨by (with_reducible repeat (first | refine blk_drewN ?_ _ | refine blk_drew ?_ | refine blk_alloc ?_ _)); refine blk_put (cs := #[.int .i64 ((rd_T48 l1 (ji35)).f0), .int .i64 ((rd_T48 l1 (ji35)).f1), .int .i64 0]) ?_ 2 _ rfl; (with_reducible repeat (first | refine blk_drewN ?_ _ | refine blk_drew ?_ | refine blk_alloc ?_ _)); refine blk_put (cs := #[.int .i64 ((rd_T48 l1 (ji35)).f0), .int .i64 0, .int .i64 0]) ?_ 1 _ rfl; (with_reducible repeat (first | refine blk_drewN ?_ _ | refine blk_drew ?_ | refine blk_alloc ?_ _)); refine blk_put (cs := #[.int .i64 0, .int .i64 0, .int .i64 0]) ?_ 0 _ rfl; (with_reducible repeat (first | refine blk_drewN ?_ _ | refine blk_drew ?_ | refine blk_alloc ?_ _)); exact BK235.out⟩
                   have n2_ : Aside0 (Below w.heap.size w (((w47.setCell ⟨gb235, 0, none⟩ (.int .i64 ((rd_T48 l1 (ji35)).f0))).setCell ⟨gb235, 1, none⟩ (.int .i64 ((rd_T48 l1 (ji35)).f1))).setCell ⟨gb235, 2, none⟩ (.int .i64 ((rd_T48 l1 (ji35)).f2)))) := ⟨nH2 HB.out GE231.out GE235.out⟩
                   (try clear BK231); (try clear BK235); (try clear HB)
                   generalize (((w47.setCell ⟨gb235, 0, none⟩ (.int .i64 ((rd_T48 l1 (ji35)).f0))).setCell ⟨gb235, 1, none⟩ (.int .i64 ((rd_T48 l1 (ji35)).f1))).setCell ⟨gb235, 2, none⟩ (.int .i64 ((rd_T48 l1 (ji35)).f2))) = w50 at n0_ n1_ n2_ ⊢
                   have BK231 := n0_; have BK235 := n1_; have HB := n2_; clear n0_ n1_ n2_
                   have n0_ := Aside0.mk (blk_drew BK231.out)
                   have n1_ := Aside0.mk (blk_drew BK235.out)
                   have n2_ := Aside0.mk (below_drew1 HB.out)
                   clear BK231; clear BK235; clear HB; have BK231 := n0_; have BK235 := n1_; have HB := n2_; clear n0_ n1_ n2_
                   have p236 : 0 ≤ (((rd_T48 l1 x25_2).f0) : Int) := of_decide_eq_true nQ
                   have q236 : ((rd_T48 l1 x25_2).f0) < (l0.length : Int) := of_decide_eq_true nQ
                   obtain ⟨ad236, A236_1, c236_1, e236, hx236_0, hx236_1, hl236_1, hi236_1⟩ := at_T46 HR0.out ((rd_T48 l1 x25_2).f0) p236 q236
                   have hw236_1 := hx236_1; have hw236_0 := hx236_0; cases e236
                   replace hx236_0 := (HB.out.cell (World.block_lt_of_cell? w _ hx236_0)).trans hx236_0
                   replace hx236_1 := (HB.out.cell (World.block_lt_of_cell? w _ hx236_1)).trans hx236_1
                   have HR236_1 := Aside0.mk hi236_1
                   have HC236_1 := Aside0.mk hl236_1
                   clear hi236_1 hl236_1; replace p236 := eq_true p236; replace q236 := eq_true q236
                   have p237 : 0 ≤ (((rd_T48 l1 x25_2).f1) : Int) := of_decide_eq_true nQ
                   have q237 : ((rd_T48 l1 x25_2).f1) < (((rd_T46 l0 ((rd_T48 l1 x25_2).f0)).f1).length : Int) := of_decide_eq_true nQ
                   obtain ⟨ad237, e237, hx237_0, hx237_1, hx237_2⟩ := at_T43 HR236_1.out ((rd_T48 l1 x25_2).f1) p237 q237
                   have hw237_2 := hx237_2; have hw237_1 := hx237_1; have hw237_0 := hx237_0; cases e237
                   replace hx237_0 := (HB.out.cell (World.block_lt_of_cell? w _ hx237_0)).trans hx237_0
                   replace hx237_1 := (HB.out.cell (World.block_lt_of_cell? w _ hx237_1)).trans hx237_1
                   replace hx237_2 := (HB.out.cell (World.block_lt_of_cell? w _ hx237_2)).trans hx237_2
                   replace p237 := eq_true p237; replace q237 := eq_true q237
                   refine start_ (n := 26) (S := fun w' => w'.cell? ⟨gb231, 0, none⟩ = some (.int .i64 ((rd_T48 l1 x25_2).f0)) ∧ w'.cell? ⟨gb231, 1, none⟩ = some (.int .i64 ((rd_T48 l1 x25_2).f1)) ∧ w'.cell? ⟨gb231, 2, none⟩ = some (.int .i64 ((rd_T48 l1 x25_2).f2)) ∧ w'.cell? ⟨gb235, 0, none⟩ = some (.int .i64 ((rd_T48 l1 (ji35)).f0)) ∧ w'.cell? ⟨gb235, 1, none⟩ = some (.int .i64 ((rd_T48 l1 (ji35)).f1)) ∧ w'.cell? ⟨gb235, 2, none⟩ = some (.int .i64 ((rd_T48 l1 (ji35)).f2)) ∧ w'.cell? (ad236.add ((((rd_T48 l1 x25_2).f0)).toNat * 2)) = some (.string ((rd_T46 l0 ((rd_T48 l1 x25_2).f0)).f0)) ∧ w'.cell? ⟨(ad236.add ((((rd_T48 l1 x25_2).f0)).toNat * 2)).block, (ad236.add ((((rd_T48 l1 x25_2).f0)).toNat * 2)).off + 1, none⟩ = some (.slice (some ad237) ((rd_T46 l0 ((rd_T48 l1 x25_2).f0)).f1).length c236_1) ∧ w'.cell? (ad237.add ((((rd_T48 l1 x25_2).f1)).toNat * 3)) = some (.int .i64 ((rd_T43 ((rd_T46 l0 ((rd_T48 l1 x25_2).f0)).f1) ((rd_T48 l1 x25_2).f1)).f0)) ∧ w'.cell? ⟨(ad237.add ((((rd_T48 l1 x25_2).f1)).toNat * 3)).block, (ad237.add ((((rd_T48 l1 x25_2).f1)).toNat * 3)).off + 1, none⟩ = some (.int .i64 ((rd_T43 ((rd_T46 l0 ((rd_T48 l1 x25_2).f0)).f1) ((rd_T48 l1 x25_2).f1)).f1)) ∧ w'.cell? ⟨(ad237.add ((((rd_T48 l1 x25_2).f1)).toNat * 3)).block, (ad237.add ((((rd_T48 l1 x25_2).f1)).toNat * 3)).off + 2, none⟩ = some (.int .i64 ((rd_T43 ((rd_T46 l0 ((rd_T48 l1 x25_2).f0)).f1) ((rd_T48 l1 x25_2).f1)).f2))) (ds := []) #[F,F,F,F,F,F,F,F,F,F,F,F,F,F,F,F,F,F,F,F,F,F,F,F,F,F] (by kernel_rfl) rfl rfl ⟨(blk_cell BK231.out 0).trans rfl, (blk_cell BK231.out 1).trans rfl, (blk_cell BK231.out 2).trans rfl, (blk_cell BK235.out 0).trans rfl, (blk_cell BK235.out 1).trans rfl, (blk_cell BK235.out 2).trans rfl, (nC HB.out hw236_0 :), (nC HB.out hw236_1 :), (nC HB.out hw237_0 :), (nC HB.out hw237_1 :), (nC HB.out hw237_2 :)⟩ (fun hHeld => ?_); refine with_tabW impl_LegsOk.tab10 impl_LegsOk.bits10 (fun HT_ HW_ => ?_)
                   generalize w50.drew = w51 at BK231 BK235 HB HR236_1 hx236_0 hx236_1 hx237_0 hx237_1 hx237_2 hHeld ⊢
                   refine pU 0 (some 68) #[T,F,F,F,F,F,F,F,F,F,F,F,F,F,F,F,F,F,F,F,F,F,F,F,F,F] rfl rfl HT_.out ?_
                   refine pU 1 (some 69) #[T,T,F,F,F,F,F,F,F,F,F,F,F,F,F,F,F,F,F,F,F,F,F,F,F,F] rfl rfl HT_.out ?_
                   refine pU 6 (some 74) #[T,T,F,F,F,F,T,F,F,F,F,F,F,F,F,F,F,F,F,F,F,F,F,F,F,F] rfl rfl HT_.out ?_
                   refine pU 11 (some 79) #[T,T,F,F,F,F,T,F,F,F,F,T,F,F,F,F,F,F,F,F,F,F,F,F,F,F] rfl rfl HT_.out ?_
                   refine tU11 2 (some 70) #[T,T,T,F,F,F,T,F,F,F,F,T,F,F,F,F,F,F,F,F,F,F,F,F,F,F] rfl rfl HT_.out HW_.out hHeld ?_
                   refine pU 3 (some 71) #[T,T,T,T,F,F,T,F,F,F,F,T,F,F,F,F,F,F,F,F,F,F,F,F,F,F] rfl rfl HT_.out ?_
                   refine pU 4 (some 72) #[T,T,T,T,T,F,T,F,F,F,F,T,F,F,F,F,F,F,F,F,F,F,F,F,F,F] rfl rfl HT_.out ?_
                   refine tU11 5 (some 73) #[T,T,T,T,T,T,T,F,F,F,F,T,F,F,F,F,F,F,F,F,F,F,F,F,F,F] rfl rfl HT_.out HW_.out hHeld ?_
                   refine tU11 7 (some 75) #[T,T,T,T,T,T,T,T,F,F,F,T,F,F,F,F,F,F,F,F,F,F,F,F,F,F] rfl rfl HT_.out HW_.out hHeld ?_
                   refine pU 8 (some 76) #[T,T,T,T,T,T,T,T,T,F,F,T,F,F,F,F,F,F,F,F,F,F,F,F,F,F] rfl rfl HT_.out ?_
                   refine pU 9 (some 77) #[T,T,T,T,T,T,T,T,T,T,F,T,F,F,F,F,F,F,F,F,F,F,F,F,F,F] rfl rfl HT_.out ?_
                   refine tU11 10 (some 78) #[T,T,T,T,T,T,T,T,T,T,T,T,F,F,F,F,F,F,F,F,F,F,F,F,F,F] rfl rfl HT_.out HW_.out hHeld ?_
                   refine tU11 12 (some 80) #[T,T,T,T,T,T,T,T,T,T,T,T,T,F,F,F,F,F,F,F,F,F,F,F,F,F] rfl rfl HT_.out HW_.out hHeld ?_
                   refine one_ (i := 13) (N := some 81) #[T,T,T,T,T,T,T,T,T,T,T,T,T,T,F,F,F,F,F,F,F,F,F,F,F,F] rfl rfl (one_of HT_.out (by kernel_rfl)) (by decide) (fun K hK => ?_)
                   refine goes_ Tryd.func39 (by kernel_rfl) rfl #[.slice (some ad236) l0.length c0, .agg #[.int .i64 ((rd_T48 l1 (ji35)).f0), .int .i64 ((rd_T48 l1 (ji35)).f1), .int .i64 ((rd_T48 l1 (ji35)).f2)]] (by rfl) rfl rfl (by (try simp only [List.map_toArray, List.map_cons, List.map_nil]); first | done | (simp only [hji35]; rfl) | rfl | (simp only [List.length_drop, List.length_take]; rfl)) ?_
                   with_reducible refine (impl_ends.calls _ _ l0 ((rd_T48 l1 (ji35)).f0) ((rd_T48 l1 (ji35)).f1) ((rd_T48 l1 (ji35)).f2) t238 _ ?side1 ?side2 A42.out).mono ?_
                   (case side1 => repeat (first | exact (Kd.C_below HR0.out HB.out) | (with_reducible refine Kd.C_alloc ?_ _) | (with_reducible refine Kd.C_drewN ?_ _) | (with_reducible refine Kd.C_drew ?_)))
                   (case side2 => exact HC0.out)
                   rintro e w52 ⟨rfl, hb⟩
                   refine ⟨_, rfl, ?_⟩
                   have n0_ := Aside0.mk (blk_below (g := gb231) (o := .cells #[.int .i64 ((rd_T48 l1 x25_2).f0), .int .i64 ((rd_T48 l1 x25_2).f1), .int .i64 ((rd_T48 l1 x25_2).f2)] 48 (0, 0)) (nB BK231.out) hb)
                   have n1_ := Aside0.mk (blk_below (g := gb235) (o := .cells #[.int .i64 ((rd_T48 l1 (ji35)).f0), .int .i64 ((rd_T48 l1 (ji35)).f1), .int .i64 ((rd_T48 l1 (ji35)).f2)] 48 (0, 0)) (nB BK235.out) hb)
                   have n2_ := Aside0.mk (below_step (nH2 HB.out GE231.out GE235.out) hb)
                   clear BK231; clear BK235; clear HB; have BK231 := n0_; have BK235 := n1_; have HB := n2_; clear n0_ n1_ n2_; (try clear hb); (try clear hb2); (try clear hk); (try clear hi)
                   refine hK.out _ _ ⟨(blk_cell BK231.out 0).trans rfl, (blk_cell BK231.out 1).trans rfl, (blk_cell BK231.out 2).trans rfl, (blk_cell BK235.out 0).trans rfl, (blk_cell BK235.out 1).trans rfl, (blk_cell BK235.out 2).trans rfl, (nC HB.out hw236_0 :), (nC HB.out hw236_1 :), (nC HB.out hw237_0 :), (nC HB.out hw237_1 :), (nC HB.out hw237_2 :)⟩ (fun hHeld => ?_)
                   clear hK K
                   refine norm_ (a' := ?_) ?_ ?_
                   rotate_left
                   · show Act.put _ (some 81) _ = _
                     simp only [Act.put, List.setIfInBounds_toArray, List.set_cons_zero, List.set_cons_succ, i64_w, i32_w]
                     rfl
                   refine pU 14 (some 82) #[T,T,T,T,T,T,T,T,T,T,T,T,T,T,T,F,F,F,F,F,F,F,F,F,F,F] rfl rfl HT_.out ?_
                   refine pU 15 (some 83) #[T,T,T,T,T,T,T,T,T,T,T,T,T,T,T,T,F,F,F,F,F,F,F,F,F,F] rfl rfl HT_.out ?_
                   refine pU 16 (some 84) #[T,T,T,T,T,T,T,T,T,T,T,T,T,T,T,T,T,F,F,F,F,F,F,F,F,F] rfl rfl HT_.out ?_
                   refine pU 19 (some 87) #[T,T,T,T,T,T,T,T,T,T,T,T,T,T,T,T,T,F,F,T,F,F,F,F,F,F] rfl rfl HT_.out ?_
                   refine pU 22 (some 90) #[T,T,T,T,T,T,T,T,T,T,T,T,T,T,T,T,T,F,F,T,F,F,T,F,F,F] rfl rfl HT_.out ?_
                   refine tU11 17 (some 85) #[T,T,T,T,T,T,T,T,T,T,T,T,T,T,T,T,T,T,F,T,F,F,T,F,F,F] rfl rfl HT_.out HW_.out hHeld ?_
                   refine tU11 20 (some 88) #[T,T,T,T,T,T,T,T,T,T,T,T,T,T,T,T,T,T,F,T,T,F,T,F,F,F] rfl rfl HT_.out HW_.out hHeld ?_
                   refine one_ (i := 18) (N := some 86) #[T,T,T,T,T,T,T,T,T,T,T,T,T,T,T,T,T,T,T,T,T,F,T,F,F,F] rfl rfl (one_of HT_.out (by kernel_rfl)) (by decide) (fun K hK => ?_)
                   refine goes_ Tryd.func26 (by kernel_rfl) rfl #[.slice (some ad236) l0.length c0, .agg #[.int .i64 ((rd_T48 l1 x25_2).f0), .int .i64 ((rd_T48 l1 x25_2).f1), .int .i64 ((rd_T48 l1 x25_2).f2)]] (by rfl) rfl rfl (by (try simp only [List.map_toArray, List.map_cons, List.map_nil]); first | done | rfl | (simp only [List.length_drop, List.length_take]; rfl)) ?_
                   with_reducible refine (impl_leaves.calls _ _ l0 ((rd_T48 l1 x25_2).f0) ((rd_T48 l1 x25_2).f1) ((rd_T48 l1 x25_2).f2) t239 _ ?side1 ?side2 A44.out).mono ?_
                   (case side1 => repeat (first | exact (Kd.C_below HR0.out HB.out) | (with_reducible refine Kd.C_alloc ?_ _) | (with_reducible refine Kd.C_drewN ?_ _) | (with_reducible refine Kd.C_drew ?_)))
                   (case side2 => exact HC0.out)
                   rintro e w53 ⟨rfl, hb⟩
                   refine ⟨_, rfl, ?_⟩
                   have n0_ := Aside0.mk (blk_below (g := gb231) (o := .cells #[.int .i64 ((rd_T48 l1 x25_2).f0), .int .i64 ((rd_T48 l1 x25_2).f1), .int .i64 ((rd_T48 l1 x25_2).f2)] 48 (0, 0)) (nB BK231.out) hb)
                   have n1_ := Aside0.mk (blk_below (g := gb235) (o := .cells #[.int .i64 ((rd_T48 l1 (ji35)).f0), .int .i64 ((rd_T48 l1 (ji35)).f1), .int .i64 ((rd_T48 l1 (ji35)).f2)] 48 (0, 0)) (nB BK235.out) hb)
                   have n2_ := Aside0.mk (below_step (nH2 HB.out GE231.out GE235.out) hb)
                   clear BK231; clear BK235; clear HB; have BK231 := n0_; have BK235 := n1_; have HB := n2_; clear n0_ n1_ n2_; (try clear hb); (try clear hb2); (try clear hk); (try clear hi)
                   refine hK.out _ _ ⟨(blk_cell BK231.out 0).trans rfl, (blk_cell BK231.out 1).trans rfl, (blk_cell BK231.out 2).trans rfl, (blk_cell BK235.out 0).trans rfl, (blk_cell BK235.out 1).trans rfl, (blk_cell BK235.out 2).trans rfl, (nC HB.out hw236_0 :), (nC HB.out hw236_1 :), (nC HB.out hw237_0 :), (nC HB.out hw237_1 :), (nC HB.out hw237_2 :)⟩ (fun hHeld => ?_)
                   clear hK K
                   refine norm_ (a' := ?_) ?_ ?_
                   rotate_left
                   · show Act.put _ (some 86) _ = _
                     simp only [Act.put, List.setIfInBounds_toArray, List.set_cons_zero, List.set_cons_succ, i64_w, i32_w]
                     rfl
                   refine one_ (i := 21) (N := some 89) #[T,T,T,T,T,T,T,T,T,T,T,T,T,T,T,T,T,T,T,T,T,T,T,F,F,F] rfl rfl (one_of HT_.out (by kernel_rfl)) (by decide) (fun K hK => ?_)
                   refine goes_ Tryd.func27 (by kernel_rfl) rfl #[.slice (some ad236) l0.length c0, .agg #[.int .i64 ((rd_T48 l1 (ji35)).f0), .int .i64 ((rd_T48 l1 (ji35)).f1), .int .i64 ((rd_T48 l1 (ji35)).f2)]] (by rfl) rfl rfl (by (try simp only [List.map_toArray, List.map_cons, List.map_nil]); first | done | (simp only [hji35]; rfl) | rfl | (simp only [List.length_drop, List.length_take]; rfl)) ?_
                   with_reducible refine (impl_arrives.calls _ _ l0 ((rd_T48 l1 (ji35)).f0) ((rd_T48 l1 (ji35)).f1) ((rd_T48 l1 (ji35)).f2) t240 _ ?side1 ?side2 A45.out).mono ?_
                   (case side1 => repeat (first | exact (Kd.C_below HR0.out HB.out) | (with_reducible refine Kd.C_alloc ?_ _) | (with_reducible refine Kd.C_drewN ?_ _) | (with_reducible refine Kd.C_drew ?_)))
                   (case side2 => exact HC0.out)
                   rintro e w54 ⟨rfl, hb⟩
                   refine ⟨_, rfl, ?_⟩
                   have n0_ := Aside0.mk (blk_below (g := gb231) (o := .cells #[.int .i64 ((rd_T48 l1 x25_2).f0), .int .i64 ((rd_T48 l1 x25_2).f1), .int .i64 ((rd_T48 l1 x25_2).f2)] 48 (0, 0)) (nB BK231.out) hb)
                   have n1_ := Aside0.mk (blk_below (g := gb235) (o := .cells #[.int .i64 ((rd_T48 l1 (ji35)).f0), .int .i64 ((rd_T48 l1 (ji35)).f1), .int .i64 ((rd_T48 l1 (ji35)).f2)] 48 (0, 0)) (nB BK235.out) hb)
                   have n2_ := Aside0.mk (below_step (nH2 HB.out GE231.out GE235.out) hb)
                   clear BK231; clear BK235; clear HB; have BK231 := n0_; have BK235 := n1_; have HB := n2_; clear n0_ n1_ n2_; (try clear hb); (try clear hb2); (try clear hk); (try clear hi)
                   refine hK.out _ _ ⟨(blk_cell BK231.out 0).trans rfl, (blk_cell BK231.out 1).trans rfl, (blk_cell BK231.out 2).trans rfl, (blk_cell BK235.out 0).trans rfl, (blk_cell BK235.out 1).trans rfl, (blk_cell BK235.out 2).trans rfl, (nC HB.out hw236_0 :), (nC HB.out hw236_1 :), (nC HB.out hw237_0 :), (nC HB.out hw237_1 :), (nC HB.out hw237_2 :)⟩ (fun hHeld => ?_)
                   clear hK K
                   refine norm_ (a' := ?_) ?_ ?_
                   rotate_left
                   · show Act.put _ (some 89) _ = _
                     simp only [Act.put, List.setIfInBounds_toArray, List.set_cons_zero, List.set_cons_succ, i64_w, i32_w]
                     rfl
                   refine pU 23 (some 91) #[T,T,T,T,T,T,T,T,T,T,T,T,T,T,T,T,T,T,T,T,T,T,T,T,F,F] rfl rfl HT_.out ?_
                   refine pU 24 (some 92) #[T,T,T,T,T,T,T,T,T,T,T,T,T,T,T,T,T,T,T,T,T,T,T,T,T,F] rfl rfl HT_.out ?_
                   refine pU 25 (some 93) #[T,T,T,T,T,T,T,T,T,T,T,T,T,T,T,T,T,T,T,T,T,T,T,T,T,T] rfl rfl HT_.out ?_
                   refine done_ (done_of HT_.out (by kernel_rfl)) ?_
                   try go_wp2
                   go_ret
                   exact ⟨by first | rfl | (simp [errW_none, errW_some] <;> rfl) | (simp only [← hji35]; first | rfl | (simp [errW_none, errW_some] <;> rfl)) | (simp [*, errW_none, errW_some] <;> first | rfl | (simp [wrap64]; done)), nH2 HB.out GE231.out GE235.out⟩
                 · rw [if_neg c46] at H
                   have c46b0 : decide (t239 < (wrap64 (t240 + a2))) = false := decide_eq_false c46
                   clear c46
                   have H' := Aside0.mk H
                   clear H
                   have p234 : 0 ≤ ((ji35) : Int) := of_decide_eq_true nQ
                   have q234 : (ji35) < (l1.length : Int) := of_decide_eq_true nQ
                   obtain ⟨ad234, e234, hx234_0, hx234_1, hx234_2⟩ := at_T48 HR1.out (ji35) p234 q234
                   obtain rfl : ad230 = ad234 := (by injection e234)
                   replace hx234_0 := (HB.out.cell (World.block_lt_of_cell? w _ hx234_0)).trans hx234_0
                   replace hx234_1 := (HB.out.cell (World.block_lt_of_cell? w _ hx234_1)).trans hx234_1
                   replace hx234_2 := (HB.out.cell (World.block_lt_of_cell? w _ hx234_2)).trans hx234_2
                   replace p234 := eq_true p234; replace q234 := eq_true q234
                   try go_wp2_with (first | ((with_reducible refine gate_dst (N := 9) rfl ?_); (try (refine gate_guard (by rfl) ?_; dsimp only)); refine box_event ?hg (N := 9) ?hd (cs := #[.int .i64 0, .int .i64 0, .int .i64 0]) (t := 48) ?hr ?_; (case hd => rfl); (case hg => rfl); (case hr => first | (go_simp; done) | (go_simp; rfl)); intro gb235 hg w55 hbox hb; have n0_ := Aside0.mk (blk_below (g := gb231) (o := .cells #[.int .i64 ((rd_T48 l1 x25_2).f0), .int .i64 ((rd_T48 l1 x25_2).f1), .int .i64 ((rd_T48 l1 x25_2).f2)] 48 (0, 0)) (nB BK231.out) hb); have n1_ := Aside0.mk (below_step (nH1 HB.out GE231.out) hb); have n2_ := Aside0.mk (hbox); have n3_ := Aside0.mk ((by rw [hg]; exact (below_size (nH1 HB.out GE231.out)) : w.heap.size ≤ gb235)); have n4_ := Aside0.mk ((by rw [hg]; exact (below_size (nH1 HB.out GE231.out)) : w.heap.size ≤ gb235)); have n5_ := Aside0.mk ((by rw [hg]; exact Nat.ne_of_lt (blk_lt (g := gb231) (o := .cells #[.int .i64 ((rd_T48 l1 x25_2).f0), .int .i64 ((rd_T48 l1 x25_2).f1), .int .i64 ((rd_T48 l1 x25_2).f2)] 48 (0, 0)) (nB BK231.out)) : gb231 ≠ gb235)); have n6_ := Aside0.mk ((by rw [hg]; exact Nat.ne_of_gt (blk_lt (g := gb231) (o := .cells #[.int .i64 ((rd_T48 l1 x25_2).f0), .int .i64 ((rd_T48 l1 x25_2).f1), .int .i64 ((rd_T48 l1 x25_2).f2)] 48 (0, 0)) (nB BK231.out)) : gb235 ≠ gb231)); clear BK231; clear HB; have BK231 := n0_; have HB := n1_; have BK235 := n2_; have GW235 := n3_; have GE235 := n4_; have NB231_235 := n5_; have NB235_231 := n6_; clear n0_ n1_ n2_ n3_ n4_ n5_ n6_; clear hb hbox hg; have hnb56 := NB235_231.out; have hnc56 := NB231_235.out; have hcz57_0 : w55.cell? ⟨gb235, 0, none⟩ = some (.int .i64 0) := (blk_cell BK235.out 0).trans rfl; have hcz57_1 : w55.cell? ⟨gb235, 1, none⟩ = some (.int .i64 0) := (blk_cell BK235.out 1).trans rfl; have hcz57_2 : w55.cell? ⟨gb235, 2, none⟩ = some (.int .i64 0) := (blk_cell BK235.out 2).trans rfl; have hfz57_0 := blk_frozen BK235.out 0; have hfz57_1 := blk_frozen BK235.out 1; have hfz57_2 := blk_frozen BK235.out 2))
                   have n0_ : Aside0 ((((w55.setCell ⟨gb235, 0, none⟩ (.int .i64 ((rd_T48 l1 (ji35)).f0))).setCell ⟨gb235, 1, none⟩ (.int .i64 ((rd_T48 l1 (ji35)).f1))).setCell ⟨gb235, 2, none⟩ (.int .i64 ((rd_T48 l1 (ji35)).f2))).heap[gb231]? = some (.cells #[.int .i64 ((rd_T48 l1 x25_2).f0), .int .i64 ((rd_T48 l1 x25_2).f1), .int .i64 ((rd_T48 l1 x25_2).f2)] 48 (0, 0))) := ⟨by (with_reducible repeat (first | refine blk_drewN ?_ _ | refine blk_drew ?_ | refine blk_alloc ?_ _)); refine blk_far ?_ NB231_235.out _; (with_reducible repeat (first | refine blk_drewN ?_ _ | refine blk_drew ?_ | refine blk_alloc ?_ _)); refine blk_far ?_ NB231_235.out _; (with_reducible repeat (first | refine blk_drewN ?_ _ | refine blk_drew ?_ | refine blk_alloc ?_ _)); refine blk_far ?_ NB231_235.out _; (with_reducible repeat (first | refine blk_drewN ?_ _ | refine blk_drew ?_ | refine blk_alloc ?_ _)); exact BK231.out⟩
                   have n1_ : Aside0 ((((w55.setCell ⟨gb235, 0, none⟩ (.int .i64 ((rd_T48 l1 (ji35)).f0))).setCell ⟨gb235, 1, none⟩ (.int .i64 ((rd_T48 l1 (ji35)).f1))).setCell ⟨gb235, 2, none⟩ (.int .i64 ((rd_T48 l1 (ji35)).f2))).heap[gb235]? = some (.cells #[.int .i64 ((rd_T48 l1 (ji35)).f0), .int .i64 ((rd_T48 l1 (ji35)).f1), .int .i64 ((rd_T48 l1 (ji35)).f2)] 48 (0, 0))) := ⟨by (with_reducible repeat (first | refine blk_drewN ?_ _ | refine blk_drew ?_ | refine blk_alloc ?_ _)); refine blk_put (cs := #[.int .i64 ((rd_T48 l1 (ji35)).f0), .int .i64 ((rd_T48 l1 (ji35)).f1), .int .i64 0]) ?_ 2 _ rfl; (with_reducible repeat (first | refine blk_drewN ?_ _ | refine blk_drew ?_ | refine blk_alloc ?_ _)); refine blk_put (cs := #[.int .i64 ((rd_T48 l1 (ji35)).f0), .int .i64 0, .int .i64 0]) ?_ 1 _ rfl; (with_reducible repeat (first | refine blk_drewN ?_ _ | refine blk_drew ?_ | refine blk_alloc ?_ _)); refine blk_put (cs := #[.int .i64 0, .int .i64 0, .int .i64 0]) ?_ 0 _ rfl; (with_reducible repeat (first | refine blk_drewN ?_ _ | refine blk_drew ?_ | refine blk_alloc ?_ _)); exact BK235.out⟩
                   have n2_ : Aside0 (Below w.heap.size w (((w55.setCell ⟨gb235, 0, none⟩ (.int .i64 ((rd_T48 l1 (ji35)).f0))).setCell ⟨gb235, 1, none⟩ (.int .i64 ((rd_T48 l1 (ji35)).f1))).setCell ⟨gb235, 2, none⟩ (.int .i64 ((rd_T48 l1 (ji35)).f2)))) := ⟨nH2 HB.out GE231.out GE235.out⟩
                   (try clear BK231); (try clear BK235); (try clear HB)
                   generalize (((w55.setCell ⟨gb235, 0, none⟩ (.int .i64 ((rd_T48 l1 (ji35)).f0))).setCell ⟨gb235, 1, none⟩ (.int .i64 ((rd_T48 l1 (ji35)).f1))).setCell ⟨gb235, 2, none⟩ (.int .i64 ((rd_T48 l1 (ji35)).f2))) = w58 at n0_ n1_ n2_ ⊢
                   have BK231 := n0_; have BK235 := n1_; have HB := n2_; clear n0_ n1_ n2_
                   have n0_ := Aside0.mk (blk_drew BK231.out)
                   have n1_ := Aside0.mk (blk_drew BK235.out)
                   have n2_ := Aside0.mk (below_drew1 HB.out)
                   clear BK231; clear BK235; clear HB; have BK231 := n0_; have BK235 := n1_; have HB := n2_; clear n0_ n1_ n2_
                   have p236 : 0 ≤ (((rd_T48 l1 x25_2).f0) : Int) := of_decide_eq_true nQ
                   have q236 : ((rd_T48 l1 x25_2).f0) < (l0.length : Int) := of_decide_eq_true nQ
                   obtain ⟨ad236, A236_1, c236_1, e236, hx236_0, hx236_1, hl236_1, hi236_1⟩ := at_T46 HR0.out ((rd_T48 l1 x25_2).f0) p236 q236
                   have hw236_1 := hx236_1; have hw236_0 := hx236_0; cases e236
                   replace hx236_0 := (HB.out.cell (World.block_lt_of_cell? w _ hx236_0)).trans hx236_0
                   replace hx236_1 := (HB.out.cell (World.block_lt_of_cell? w _ hx236_1)).trans hx236_1
                   have HR236_1 := Aside0.mk hi236_1
                   have HC236_1 := Aside0.mk hl236_1
                   clear hi236_1 hl236_1; replace p236 := eq_true p236; replace q236 := eq_true q236
                   have p237 : 0 ≤ (((rd_T48 l1 x25_2).f1) : Int) := of_decide_eq_true nQ
                   have q237 : ((rd_T48 l1 x25_2).f1) < (((rd_T46 l0 ((rd_T48 l1 x25_2).f0)).f1).length : Int) := of_decide_eq_true nQ
                   obtain ⟨ad237, e237, hx237_0, hx237_1, hx237_2⟩ := at_T43 HR236_1.out ((rd_T48 l1 x25_2).f1) p237 q237
                   have hw237_2 := hx237_2; have hw237_1 := hx237_1; have hw237_0 := hx237_0; cases e237
                   replace hx237_0 := (HB.out.cell (World.block_lt_of_cell? w _ hx237_0)).trans hx237_0
                   replace hx237_1 := (HB.out.cell (World.block_lt_of_cell? w _ hx237_1)).trans hx237_1
                   replace hx237_2 := (HB.out.cell (World.block_lt_of_cell? w _ hx237_2)).trans hx237_2
                   replace p237 := eq_true p237; replace q237 := eq_true q237
                   refine start_ (n := 26) (S := fun w' => w'.cell? ⟨gb231, 0, none⟩ = some (.int .i64 ((rd_T48 l1 x25_2).f0)) ∧ w'.cell? ⟨gb231, 1, none⟩ = some (.int .i64 ((rd_T48 l1 x25_2).f1)) ∧ w'.cell? ⟨gb231, 2, none⟩ = some (.int .i64 ((rd_T48 l1 x25_2).f2)) ∧ w'.cell? ⟨gb235, 0, none⟩ = some (.int .i64 ((rd_T48 l1 (ji35)).f0)) ∧ w'.cell? ⟨gb235, 1, none⟩ = some (.int .i64 ((rd_T48 l1 (ji35)).f1)) ∧ w'.cell? ⟨gb235, 2, none⟩ = some (.int .i64 ((rd_T48 l1 (ji35)).f2)) ∧ w'.cell? (ad236.add ((((rd_T48 l1 x25_2).f0)).toNat * 2)) = some (.string ((rd_T46 l0 ((rd_T48 l1 x25_2).f0)).f0)) ∧ w'.cell? ⟨(ad236.add ((((rd_T48 l1 x25_2).f0)).toNat * 2)).block, (ad236.add ((((rd_T48 l1 x25_2).f0)).toNat * 2)).off + 1, none⟩ = some (.slice (some ad237) ((rd_T46 l0 ((rd_T48 l1 x25_2).f0)).f1).length c236_1) ∧ w'.cell? (ad237.add ((((rd_T48 l1 x25_2).f1)).toNat * 3)) = some (.int .i64 ((rd_T43 ((rd_T46 l0 ((rd_T48 l1 x25_2).f0)).f1) ((rd_T48 l1 x25_2).f1)).f0)) ∧ w'.cell? ⟨(ad237.add ((((rd_T48 l1 x25_2).f1)).toNat * 3)).block, (ad237.add ((((rd_T48 l1 x25_2).f1)).toNat * 3)).off + 1, none⟩ = some (.int .i64 ((rd_T43 ((rd_T46 l0 ((rd_T48 l1 x25_2).f0)).f1) ((rd_T48 l1 x25_2).f1)).f1)) ∧ w'.cell? ⟨(ad237.add ((((rd_T48 l1 x25_2).f1)).toNat * 3)).block, (ad237.add ((((rd_T48 l1 x25_2).f1)).toNat * 3)).off + 2, none⟩ = some (.int .i64 ((rd_T43 ((rd_T46 l0 ((rd_T48 l1 x25_2).f0)).f1) ((rd_T48 l1 x25_2).f1)).f2))) (ds := []) #[F,F,F,F,F,F,F,F,F,F,F,F,F,F,F,F,F,F,F,F,F,F,F,F,F,F] (by kernel_rfl) rfl rfl ⟨(blk_cell BK231.out 0).trans rfl, (blk_cell BK231.out 1).trans rfl, (blk_cell BK231.out 2).trans rfl, (blk_cell BK235.out 0).trans rfl, (blk_cell BK235.out 1).trans rfl, (blk_cell BK235.out 2).trans rfl, (nC HB.out hw236_0 :), (nC HB.out hw236_1 :), (nC HB.out hw237_0 :), (nC HB.out hw237_1 :), (nC HB.out hw237_2 :)⟩ (fun hHeld => ?_); refine with_tabW impl_LegsOk.tab10 impl_LegsOk.bits10 (fun HT_ HW_ => ?_)
                   generalize w58.drew = w59 at BK231 BK235 HB HR236_1 hx236_0 hx236_1 hx237_0 hx237_1 hx237_2 hHeld ⊢
                   refine pU 0 (some 68) #[T,F,F,F,F,F,F,F,F,F,F,F,F,F,F,F,F,F,F,F,F,F,F,F,F,F] rfl rfl HT_.out ?_
                   refine pU 1 (some 69) #[T,T,F,F,F,F,F,F,F,F,F,F,F,F,F,F,F,F,F,F,F,F,F,F,F,F] rfl rfl HT_.out ?_
                   refine pU 6 (some 74) #[T,T,F,F,F,F,T,F,F,F,F,F,F,F,F,F,F,F,F,F,F,F,F,F,F,F] rfl rfl HT_.out ?_
                   refine pU 11 (some 79) #[T,T,F,F,F,F,T,F,F,F,F,T,F,F,F,F,F,F,F,F,F,F,F,F,F,F] rfl rfl HT_.out ?_
                   refine tU11 2 (some 70) #[T,T,T,F,F,F,T,F,F,F,F,T,F,F,F,F,F,F,F,F,F,F,F,F,F,F] rfl rfl HT_.out HW_.out hHeld ?_
                   refine pU 3 (some 71) #[T,T,T,T,F,F,T,F,F,F,F,T,F,F,F,F,F,F,F,F,F,F,F,F,F,F] rfl rfl HT_.out ?_
                   refine pU 4 (some 72) #[T,T,T,T,T,F,T,F,F,F,F,T,F,F,F,F,F,F,F,F,F,F,F,F,F,F] rfl rfl HT_.out ?_
                   refine tU11 5 (some 73) #[T,T,T,T,T,T,T,F,F,F,F,T,F,F,F,F,F,F,F,F,F,F,F,F,F,F] rfl rfl HT_.out HW_.out hHeld ?_
                   refine tU11 7 (some 75) #[T,T,T,T,T,T,T,T,F,F,F,T,F,F,F,F,F,F,F,F,F,F,F,F,F,F] rfl rfl HT_.out HW_.out hHeld ?_
                   refine pU 8 (some 76) #[T,T,T,T,T,T,T,T,T,F,F,T,F,F,F,F,F,F,F,F,F,F,F,F,F,F] rfl rfl HT_.out ?_
                   refine pU 9 (some 77) #[T,T,T,T,T,T,T,T,T,T,F,T,F,F,F,F,F,F,F,F,F,F,F,F,F,F] rfl rfl HT_.out ?_
                   refine tU11 10 (some 78) #[T,T,T,T,T,T,T,T,T,T,T,T,F,F,F,F,F,F,F,F,F,F,F,F,F,F] rfl rfl HT_.out HW_.out hHeld ?_
                   refine tU11 12 (some 80) #[T,T,T,T,T,T,T,T,T,T,T,T,T,F,F,F,F,F,F,F,F,F,F,F,F,F] rfl rfl HT_.out HW_.out hHeld ?_
                   refine one_ (i := 13) (N := some 81) #[T,T,T,T,T,T,T,T,T,T,T,T,T,T,F,F,F,F,F,F,F,F,F,F,F,F] rfl rfl (one_of HT_.out (by kernel_rfl)) (by decide) (fun K hK => ?_)
                   refine goes_ Tryd.func39 (by kernel_rfl) rfl #[.slice (some ad236) l0.length c0, .agg #[.int .i64 ((rd_T48 l1 (ji35)).f0), .int .i64 ((rd_T48 l1 (ji35)).f1), .int .i64 ((rd_T48 l1 (ji35)).f2)]] (by rfl) rfl rfl (by (try simp only [List.map_toArray, List.map_cons, List.map_nil]); first | done | (simp only [hji35]; rfl) | rfl | (simp only [List.length_drop, List.length_take]; rfl)) ?_
                   with_reducible refine (impl_ends.calls _ _ l0 ((rd_T48 l1 (ji35)).f0) ((rd_T48 l1 (ji35)).f1) ((rd_T48 l1 (ji35)).f2) t238 _ ?side1 ?side2 A42.out).mono ?_
                   (case side1 => repeat (first | exact (Kd.C_below HR0.out HB.out) | (with_reducible refine Kd.C_alloc ?_ _) | (with_reducible refine Kd.C_drewN ?_ _) | (with_reducible refine Kd.C_drew ?_)))
                   (case side2 => exact HC0.out)
                   rintro e w60 ⟨rfl, hb⟩
                   refine ⟨_, rfl, ?_⟩
                   have n0_ := Aside0.mk (blk_below (g := gb231) (o := .cells #[.int .i64 ((rd_T48 l1 x25_2).f0), .int .i64 ((rd_T48 l1 x25_2).f1), .int .i64 ((rd_T48 l1 x25_2).f2)] 48 (0, 0)) (nB BK231.out) hb)
                   have n1_ := Aside0.mk (blk_below (g := gb235) (o := .cells #[.int .i64 ((rd_T48 l1 (ji35)).f0), .int .i64 ((rd_T48 l1 (ji35)).f1), .int .i64 ((rd_T48 l1 (ji35)).f2)] 48 (0, 0)) (nB BK235.out) hb)
                   have n2_ := Aside0.mk (below_step (nH2 HB.out GE231.out GE235.out) hb)
                   clear BK231; clear BK235; clear HB; have BK231 := n0_; have BK235 := n1_; have HB := n2_; clear n0_ n1_ n2_; (try clear hb); (try clear hb2); (try clear hk); (try clear hi)
                   refine hK.out _ _ ⟨(blk_cell BK231.out 0).trans rfl, (blk_cell BK231.out 1).trans rfl, (blk_cell BK231.out 2).trans rfl, (blk_cell BK235.out 0).trans rfl, (blk_cell BK235.out 1).trans rfl, (blk_cell BK235.out 2).trans rfl, (nC HB.out hw236_0 :), (nC HB.out hw236_1 :), (nC HB.out hw237_0 :), (nC HB.out hw237_1 :), (nC HB.out hw237_2 :)⟩ (fun hHeld => ?_)
                   clear hK K
                   refine norm_ (a' := ?_) ?_ ?_
                   rotate_left
                   · show Act.put _ (some 81) _ = _
                     simp only [Act.put, List.setIfInBounds_toArray, List.set_cons_zero, List.set_cons_succ, i64_w, i32_w]
                     rfl
                   refine pU 14 (some 82) #[T,T,T,T,T,T,T,T,T,T,T,T,T,T,T,F,F,F,F,F,F,F,F,F,F,F] rfl rfl HT_.out ?_
                   refine pU 15 (some 83) #[T,T,T,T,T,T,T,T,T,T,T,T,T,T,T,T,F,F,F,F,F,F,F,F,F,F] rfl rfl HT_.out ?_
                   refine pU 16 (some 84) #[T,T,T,T,T,T,T,T,T,T,T,T,T,T,T,T,T,F,F,F,F,F,F,F,F,F] rfl rfl HT_.out ?_
                   refine pU 19 (some 87) #[T,T,T,T,T,T,T,T,T,T,T,T,T,T,T,T,T,F,F,T,F,F,F,F,F,F] rfl rfl HT_.out ?_
                   refine pU 22 (some 90) #[T,T,T,T,T,T,T,T,T,T,T,T,T,T,T,T,T,F,F,T,F,F,T,F,F,F] rfl rfl HT_.out ?_
                   refine tU11 17 (some 85) #[T,T,T,T,T,T,T,T,T,T,T,T,T,T,T,T,T,T,F,T,F,F,T,F,F,F] rfl rfl HT_.out HW_.out hHeld ?_
                   refine tU11 20 (some 88) #[T,T,T,T,T,T,T,T,T,T,T,T,T,T,T,T,T,T,F,T,T,F,T,F,F,F] rfl rfl HT_.out HW_.out hHeld ?_
                   refine one_ (i := 18) (N := some 86) #[T,T,T,T,T,T,T,T,T,T,T,T,T,T,T,T,T,T,T,T,T,F,T,F,F,F] rfl rfl (one_of HT_.out (by kernel_rfl)) (by decide) (fun K hK => ?_)
                   refine goes_ Tryd.func26 (by kernel_rfl) rfl #[.slice (some ad236) l0.length c0, .agg #[.int .i64 ((rd_T48 l1 x25_2).f0), .int .i64 ((rd_T48 l1 x25_2).f1), .int .i64 ((rd_T48 l1 x25_2).f2)]] (by rfl) rfl rfl (by (try simp only [List.map_toArray, List.map_cons, List.map_nil]); first | done | rfl | (simp only [List.length_drop, List.length_take]; rfl)) ?_
                   with_reducible refine (impl_leaves.calls _ _ l0 ((rd_T48 l1 x25_2).f0) ((rd_T48 l1 x25_2).f1) ((rd_T48 l1 x25_2).f2) t239 _ ?side1 ?side2 A44.out).mono ?_
                   (case side1 => repeat (first | exact (Kd.C_below HR0.out HB.out) | (with_reducible refine Kd.C_alloc ?_ _) | (with_reducible refine Kd.C_drewN ?_ _) | (with_reducible refine Kd.C_drew ?_)))
                   (case side2 => exact HC0.out)
                   rintro e w61 ⟨rfl, hb⟩
                   refine ⟨_, rfl, ?_⟩
                   have n0_ := Aside0.mk (blk_below (g := gb231) (o := .cells #[.int .i64 ((rd_T48 l1 x25_2).f0), .int .i64 ((rd_T48 l1 x25_2).f1), .int .i64 ((rd_T48 l1 x25_2).f2)] 48 (0, 0)) (nB BK231.out) hb)
                   have n1_ := Aside0.mk (blk_below (g := gb235) (o := .cells #[.int .i64 ((rd_T48 l1 (ji35)).f0), .int .i64 ((rd_T48 l1 (ji35)).f1), .int .i64 ((rd_T48 l1 (ji35)).f2)] 48 (0, 0)) (nB BK235.out) hb)
                   have n2_ := Aside0.mk (below_step (nH2 HB.out GE231.out GE235.out) hb)
                   clear BK231; clear BK235; clear HB; have BK231 := n0_; have BK235 := n1_; have HB := n2_; clear n0_ n1_ n2_; (try clear hb); (try clear hb2); (try clear hk); (try clear hi)
                   refine hK.out _ _ ⟨(blk_cell BK231.out 0).trans rfl, (blk_cell BK231.out 1).trans rfl, (blk_cell BK231.out 2).trans rfl, (blk_cell BK235.out 0).trans rfl, (blk_cell BK235.out 1).trans rfl, (blk_cell BK235.out 2).trans rfl, (nC HB.out hw236_0 :), (nC HB.out hw236_1 :), (nC HB.out hw237_0 :), (nC HB.out hw237_1 :), (nC HB.out hw237_2 :)⟩ (fun hHeld => ?_)
                   clear hK K
                   refine norm_ (a' := ?_) ?_ ?_
                   rotate_left
                   · show Act.put _ (some 86) _ = _
                     simp only [Act.put, List.setIfInBounds_toArray, List.set_cons_zero, List.set_cons_succ, i64_w, i32_w]
                     rfl
                   refine one_ (i := 21) (N := some 89) #[T,T,T,T,T,T,T,T,T,T,T,T,T,T,T,T,T,T,T,T,T,T,T,F,F,F] rfl rfl (one_of HT_.out (by kernel_rfl)) (by decide) (fun K hK => ?_)
                   refine goes_ Tryd.func27 (by kernel_rfl) rfl #[.slice (some ad236) l0.length c0, .agg #[.int .i64 ((rd_T48 l1 (ji35)).f0), .int .i64 ((rd_T48 l1 (ji35)).f1), .int .i64 ((rd_T48 l1 (ji35)).f2)]] (by rfl) rfl rfl (by (try simp only [List.map_toArray, List.map_cons, List.map_nil]); first | done | (simp only [hji35]; rfl) | rfl | (simp only [List.length_drop, List.length_take]; rfl)) ?_
                   with_reducible refine (impl_arrives.calls _ _ l0 ((rd_T48 l1 (ji35)).f0) ((rd_T48 l1 (ji35)).f1) ((rd_T48 l1 (ji35)).f2) t240 _ ?side1 ?side2 A45.out).mono ?_
                   (case side1 => repeat (first | exact (Kd.C_below HR0.out HB.out) | (with_reducible refine Kd.C_alloc ?_ _) | (with_reducible refine Kd.C_drewN ?_ _) | (with_reducible refine Kd.C_drew ?_)))
                   (case side2 => exact HC0.out)
                   rintro e w62 ⟨rfl, hb⟩
                   refine ⟨_, rfl, ?_⟩
                   have n0_ := Aside0.mk (blk_below (g := gb231) (o := .cells #[.int .i64 ((rd_T48 l1 x25_2).f0), .int .i64 ((rd_T48 l1 x25_2).f1), .int .i64 ((rd_T48 l1 x25_2).f2)] 48 (0, 0)) (nB BK231.out) hb)
                   have n1_ := Aside0.mk (blk_below (g := gb235) (o := .cells #[.int .i64 ((rd_T48 l1 (ji35)).f0), .int .i64 ((rd_T48 l1 (ji35)).f1), .int .i64 ((rd_T48 l1 (ji35)).f2)] 48 (0, 0)) (nB BK235.out) hb)
                   have n2_ := Aside0.mk (below_step (nH2 HB.out GE231.out GE235.out) hb)
                   clear BK231; clear BK235; clear HB; have BK231 := n0_; have BK235 := n1_; have HB := n2_; clear n0_ n1_ n2_; (try clear hb); (try clear hb2); (try clear hk); (try clear hi)
                   refine hK.out _ _ ⟨(blk_cell BK231.out 0).trans rfl, (blk_cell BK231.out 1).trans rfl, (blk_cell BK231.out 2).trans rfl, (blk_cell BK235.out 0).trans rfl, (blk_cell BK235.out 1).trans rfl, (blk_cell BK235.out 2).trans rfl, (nC HB.out hw236_0 :), (nC HB.out hw236_1 :), (nC HB.out hw237_0 :), (nC HB.out hw237_1 :), (nC HB.out hw237_2 :)⟩ (fun hHeld => ?_)
                   clear hK K
                   refine norm_ (a' := ?_) ?_ ?_
                   rotate_left
                   · show Act.put _ (some 89) _ = _
                     simp only [Act.put, List.setIfInBounds_toArray, List.set_cons_zero, List.set_cons_succ, i64_w, i32_w]
                     rfl
                   refine pU 23 (some 91) #[T,T,T,T,T,T,T,T,T,T,T,T,T,T,T,T,T,T,T,T,T,T,T,T,F,F] rfl rfl HT_.out ?_
                   refine pU 24 (some 92) #[T,T,T,T,T,T,T,T,T,T,T,T,T,T,T,T,T,T,T,T,T,T,T,T,T,F] rfl rfl HT_.out ?_
                   refine pU 25 (some 93) #[T,T,T,T,T,T,T,T,T,T,T,T,T,T,T,T,T,T,T,T,T,T,T,T,T,T] rfl rfl HT_.out ?_
                   refine done_ (done_of HT_.out (by kernel_rfl)) ?_
                   try go_wp2
                   go_roundg kj15
                   case measure => have := HJ3.out; have := HK2.out; have := HJ15.out; omega
                   case rel => exact ⟨(wrap64 (x25_2 + 1)), nS, H', ⟨by have := HJ3.out; have := HK2.out; have := HJ15.out; omega⟩, ⟨nH2 HB.out GE231.out GE235.out⟩⟩
               · rw [if_neg c43] at H
                 have c43b0 : (((rd_T43 ((rd_T46 l0 ((rd_T48 l1 x25_2).f0)).f1) ((rd_T48 l1 x25_2).f1)).f0) == t238) = false := beq_eq_false_iff_ne.mpr c43
                 have c43b1 : (((rd_T43 ((rd_T46 l0 ((rd_T48 l1 x25_2).f0)).f1) ((rd_T48 l1 x25_2).f1)).f0) != t238) = true := bne_iff_ne.mpr c43
                 obtain rfl := Option.some.inj H
                 have p234 : 0 ≤ ((ji35) : Int) := of_decide_eq_true nQ
                 have q234 : (ji35) < (l1.length : Int) := of_decide_eq_true nQ
                 obtain ⟨ad234, e234, hx234_0, hx234_1, hx234_2⟩ := at_T48 HR1.out (ji35) p234 q234
                 obtain rfl : ad230 = ad234 := (by injection e234)
                 replace hx234_0 := (HB.out.cell (World.block_lt_of_cell? w _ hx234_0)).trans hx234_0
                 replace hx234_1 := (HB.out.cell (World.block_lt_of_cell? w _ hx234_1)).trans hx234_1
                 replace hx234_2 := (HB.out.cell (World.block_lt_of_cell? w _ hx234_2)).trans hx234_2
                 replace p234 := eq_true p234; replace q234 := eq_true q234
                 try go_wp2_with (first | ((with_reducible refine gate_dst (N := 9) rfl ?_); (try (refine gate_guard (by rfl) ?_; dsimp only)); refine box_event ?hg (N := 9) ?hd (cs := #[.int .i64 0, .int .i64 0, .int .i64 0]) (t := 48) ?hr ?_; (case hd => rfl); (case hg => rfl); (case hr => first | (go_simp; done) | (go_simp; rfl)); intro gb235 hg w63 hbox hb; have n0_ := Aside0.mk (blk_below (g := gb231) (o := .cells #[.int .i64 ((rd_T48 l1 x25_2).f0), .int .i64 ((rd_T48 l1 x25_2).f1), .int .i64 ((rd_T48 l1 x25_2).f2)] 48 (0, 0)) (nB BK231.out) hb); have n1_ := Aside0.mk (below_step (nH1 HB.out GE231.out) hb); have n2_ := Aside0.mk (hbox); have n3_ := Aside0.mk ((by rw [hg]; exact (below_size (nH1 HB.out GE231.out)) : w.heap.size ≤ gb235)); have n4_ := Aside0.mk ((by rw [hg]; exact (below_size (nH1 HB.out GE231.out)) : w.heap.size ≤ gb235)); have n5_ := Aside0.mk ((by rw [hg]; exact Nat.ne_of_lt (blk_lt (g := gb231) (o := .cells #[.int .i64 ((rd_T48 l1 x25_2).f0), .int .i64 ((rd_T48 l1 x25_2).f1), .int .i64 ((rd_T48 l1 x25_2).f2)] 48 (0, 0)) (nB BK231.out)) : gb231 ≠ gb235)); have n6_ := Aside0.mk ((by rw [hg]; exact Nat.ne_of_gt (blk_lt (g := gb231) (o := .cells #[.int .i64 ((rd_T48 l1 x25_2).f0), .int .i64 ((rd_T48 l1 x25_2).f1), .int .i64 ((rd_T48 l1 x25_2).f2)] 48 (0, 0)) (nB BK231.out)) : gb235 ≠ gb231)); clear BK231; clear HB; have BK231 := n0_; have HB := n1_; have BK235 := n2_; have GW235 := n3_; have GE235 := n4_; have NB231_235 := n5_; have NB235_231 := n6_; clear n0_ n1_ n2_ n3_ n4_ n5_ n6_; clear hb hbox hg; have hnb64 := NB235_231.out; have hnc64 := NB231_235.out; have hcz65_0 : w63.cell? ⟨gb235, 0, none⟩ = some (.int .i64 0) := (blk_cell BK235.out 0).trans rfl; have hcz65_1 : w63.cell? ⟨gb235, 1, none⟩ = some (.int .i64 0) := (blk_cell BK235.out 1).trans rfl; have hcz65_2 : w63.cell? ⟨gb235, 2, none⟩ = some (.int .i64 0) := (blk_cell BK235.out 2).trans rfl; have hfz65_0 := blk_frozen BK235.out 0; have hfz65_1 := blk_frozen BK235.out 1; have hfz65_2 := blk_frozen BK235.out 2))
                 have n0_ : Aside0 ((((w63.setCell ⟨gb235, 0, none⟩ (.int .i64 ((rd_T48 l1 (ji35)).f0))).setCell ⟨gb235, 1, none⟩ (.int .i64 ((rd_T48 l1 (ji35)).f1))).setCell ⟨gb235, 2, none⟩ (.int .i64 ((rd_T48 l1 (ji35)).f2))).heap[gb231]? = some (.cells #[.int .i64 ((rd_T48 l1 x25_2).f0), .int .i64 ((rd_T48 l1 x25_2).f1), .int .i64 ((rd_T48 l1 x25_2).f2)] 48 (0, 0))) := ⟨by (with_reducible repeat (first | refine blk_drewN ?_ _ | refine blk_drew ?_ | refine blk_alloc ?_ _)); refine blk_far ?_ NB231_235.out _; (with_reducible repeat (first | refine blk_drewN ?_ _ | refine blk_drew ?_ | refine blk_alloc ?_ _)); refine blk_far ?_ NB231_235.out _; (with_reducible repeat (first | refine blk_drewN ?_ _ | refine blk_drew ?_ | refine blk_alloc ?_ _)); refine blk_far ?_ NB231_235.out _; (with_reducible repeat (first | refine blk_drewN ?_ _ | refine blk_drew ?_ | refine blk_alloc ?_ _)); exact BK231.out⟩
                 have n1_ : Aside0 ((((w63.setCell ⟨gb235, 0, none⟩ (.int .i64 ((rd_T48 l1 (ji35)).f0))).setCell ⟨gb235, 1, none⟩ (.int .i64 ((rd_T48 l1 (ji35)).f1))).setCell ⟨gb235, 2, none⟩ (.int .i64 ((rd_T48 l1 (ji35)).f2))).heap[gb235]? = some (.cells #[.int .i64 ((rd_T48 l1 (ji35)).f0), .int .i64 ((rd_T48 l1 (ji35)).f1), .int .i64 ((rd_T48 l1 (ji35)).f2)] 48 (0, 0))) := ⟨by (with_reducible repeat (first | refine blk_drewN ?_ _ | refine blk_drew ?_ | refine blk_alloc ?_ _)); refine blk_put (cs := #[.int .i64 ((rd_T48 l1 (ji35)).f0), .int .i64 ((rd_T48 l1 (ji35)).f1), .int .i64 0]) ?_ 2 _ rfl; (with_reducible repeat (first | refine blk_drewN ?_ _ | refine blk_drew ?_ | refine blk_alloc ?_ _)); refine blk_put (cs := #[.int .i64 ((rd_T48 l1 (ji35)).f0), .int .i64 0, .int .i64 0]) ?_ 1 _ rfl; (with_reducible repeat (first | refine blk_drewN ?_ _ | refine blk_drew ?_ | refine blk_alloc ?_ _)); refine blk_put (cs := #[.int .i64 0, .int .i64 0, .int .i64 0]) ?_ 0 _ rfl; (with_reducible repeat (first | refine blk_drewN ?_ _ | refine blk_drew ?_ | refine blk_alloc ?_ _)); exact BK235.out⟩
                 have n2_ : Aside0 (Below w.heap.size w (((w63.setCell ⟨gb235, 0, none⟩ (.int .i64 ((rd_T48 l1 (ji35)).f0))).setCell ⟨gb235, 1, none⟩ (.int .i64 ((rd_T48 l1 (ji35)).f1))).setCell ⟨gb235, 2, none⟩ (.int .i64 ((rd_T48 l1 (ji35)).f2)))) := ⟨nH2 HB.out GE231.out GE235.out⟩
                 (try clear BK231); (try clear BK235); (try clear HB)
                 generalize (((w63.setCell ⟨gb235, 0, none⟩ (.int .i64 ((rd_T48 l1 (ji35)).f0))).setCell ⟨gb235, 1, none⟩ (.int .i64 ((rd_T48 l1 (ji35)).f1))).setCell ⟨gb235, 2, none⟩ (.int .i64 ((rd_T48 l1 (ji35)).f2))) = w66 at n0_ n1_ n2_ ⊢
                 have BK231 := n0_; have BK235 := n1_; have HB := n2_; clear n0_ n1_ n2_
                 have n0_ := Aside0.mk (blk_drew BK231.out)
                 have n1_ := Aside0.mk (blk_drew BK235.out)
                 have n2_ := Aside0.mk (below_drew1 HB.out)
                 clear BK231; clear BK235; clear HB; have BK231 := n0_; have BK235 := n1_; have HB := n2_; clear n0_ n1_ n2_
                 have p236 : 0 ≤ (((rd_T48 l1 x25_2).f0) : Int) := of_decide_eq_true nQ
                 have q236 : ((rd_T48 l1 x25_2).f0) < (l0.length : Int) := of_decide_eq_true nQ
                 obtain ⟨ad236, A236_1, c236_1, e236, hx236_0, hx236_1, hl236_1, hi236_1⟩ := at_T46 HR0.out ((rd_T48 l1 x25_2).f0) p236 q236
                 have hw236_1 := hx236_1; have hw236_0 := hx236_0; cases e236
                 replace hx236_0 := (HB.out.cell (World.block_lt_of_cell? w _ hx236_0)).trans hx236_0
                 replace hx236_1 := (HB.out.cell (World.block_lt_of_cell? w _ hx236_1)).trans hx236_1
                 have HR236_1 := Aside0.mk hi236_1
                 have HC236_1 := Aside0.mk hl236_1
                 clear hi236_1 hl236_1; replace p236 := eq_true p236; replace q236 := eq_true q236
                 have p237 : 0 ≤ (((rd_T48 l1 x25_2).f1) : Int) := of_decide_eq_true nQ
                 have q237 : ((rd_T48 l1 x25_2).f1) < (((rd_T46 l0 ((rd_T48 l1 x25_2).f0)).f1).length : Int) := of_decide_eq_true nQ
                 obtain ⟨ad237, e237, hx237_0, hx237_1, hx237_2⟩ := at_T43 HR236_1.out ((rd_T48 l1 x25_2).f1) p237 q237
                 have hw237_2 := hx237_2; have hw237_1 := hx237_1; have hw237_0 := hx237_0; cases e237
                 replace hx237_0 := (HB.out.cell (World.block_lt_of_cell? w _ hx237_0)).trans hx237_0
                 replace hx237_1 := (HB.out.cell (World.block_lt_of_cell? w _ hx237_1)).trans hx237_1
                 replace hx237_2 := (HB.out.cell (World.block_lt_of_cell? w _ hx237_2)).trans hx237_2
                 replace p237 := eq_true p237; replace q237 := eq_true q237
                 refine start_ (n := 26) (S := fun w' => w'.cell? ⟨gb231, 0, none⟩ = some (.int .i64 ((rd_T48 l1 x25_2).f0)) ∧ w'.cell? ⟨gb231, 1, none⟩ = some (.int .i64 ((rd_T48 l1 x25_2).f1)) ∧ w'.cell? ⟨gb231, 2, none⟩ = some (.int .i64 ((rd_T48 l1 x25_2).f2)) ∧ w'.cell? ⟨gb235, 0, none⟩ = some (.int .i64 ((rd_T48 l1 (ji35)).f0)) ∧ w'.cell? ⟨gb235, 1, none⟩ = some (.int .i64 ((rd_T48 l1 (ji35)).f1)) ∧ w'.cell? ⟨gb235, 2, none⟩ = some (.int .i64 ((rd_T48 l1 (ji35)).f2)) ∧ w'.cell? (ad236.add ((((rd_T48 l1 x25_2).f0)).toNat * 2)) = some (.string ((rd_T46 l0 ((rd_T48 l1 x25_2).f0)).f0)) ∧ w'.cell? ⟨(ad236.add ((((rd_T48 l1 x25_2).f0)).toNat * 2)).block, (ad236.add ((((rd_T48 l1 x25_2).f0)).toNat * 2)).off + 1, none⟩ = some (.slice (some ad237) ((rd_T46 l0 ((rd_T48 l1 x25_2).f0)).f1).length c236_1) ∧ w'.cell? (ad237.add ((((rd_T48 l1 x25_2).f1)).toNat * 3)) = some (.int .i64 ((rd_T43 ((rd_T46 l0 ((rd_T48 l1 x25_2).f0)).f1) ((rd_T48 l1 x25_2).f1)).f0)) ∧ w'.cell? ⟨(ad237.add ((((rd_T48 l1 x25_2).f1)).toNat * 3)).block, (ad237.add ((((rd_T48 l1 x25_2).f1)).toNat * 3)).off + 1, none⟩ = some (.int .i64 ((rd_T43 ((rd_T46 l0 ((rd_T48 l1 x25_2).f0)).f1) ((rd_T48 l1 x25_2).f1)).f1)) ∧ w'.cell? ⟨(ad237.add ((((rd_T48 l1 x25_2).f1)).toNat * 3)).block, (ad237.add ((((rd_T48 l1 x25_2).f1)).toNat * 3)).off + 2, none⟩ = some (.int .i64 ((rd_T43 ((rd_T46 l0 ((rd_T48 l1 x25_2).f0)).f1) ((rd_T48 l1 x25_2).f1)).f2))) (ds := []) #[F,F,F,F,F,F,F,F,F,F,F,F,F,F,F,F,F,F,F,F,F,F,F,F,F,F] (by kernel_rfl) rfl rfl ⟨(blk_cell BK231.out 0).trans rfl, (blk_cell BK231.out 1).trans rfl, (blk_cell BK231.out 2).trans rfl, (blk_cell BK235.out 0).trans rfl, (blk_cell BK235.out 1).trans rfl, (blk_cell BK235.out 2).trans rfl, (nC HB.out hw236_0 :), (nC HB.out hw236_1 :), (nC HB.out hw237_0 :), (nC HB.out hw237_1 :), (nC HB.out hw237_2 :)⟩ (fun hHeld => ?_); refine with_tabW impl_LegsOk.tab10 impl_LegsOk.bits10 (fun HT_ HW_ => ?_)
                 generalize w66.drew = w67 at BK231 BK235 HB HR236_1 hx236_0 hx236_1 hx237_0 hx237_1 hx237_2 hHeld ⊢
                 refine pU 0 (some 68) #[T,F,F,F,F,F,F,F,F,F,F,F,F,F,F,F,F,F,F,F,F,F,F,F,F,F] rfl rfl HT_.out ?_
                 refine pU 1 (some 69) #[T,T,F,F,F,F,F,F,F,F,F,F,F,F,F,F,F,F,F,F,F,F,F,F,F,F] rfl rfl HT_.out ?_
                 refine pU 6 (some 74) #[T,T,F,F,F,F,T,F,F,F,F,F,F,F,F,F,F,F,F,F,F,F,F,F,F,F] rfl rfl HT_.out ?_
                 refine pU 11 (some 79) #[T,T,F,F,F,F,T,F,F,F,F,T,F,F,F,F,F,F,F,F,F,F,F,F,F,F] rfl rfl HT_.out ?_
                 refine tU11 2 (some 70) #[T,T,T,F,F,F,T,F,F,F,F,T,F,F,F,F,F,F,F,F,F,F,F,F,F,F] rfl rfl HT_.out HW_.out hHeld ?_
                 refine pU 3 (some 71) #[T,T,T,T,F,F,T,F,F,F,F,T,F,F,F,F,F,F,F,F,F,F,F,F,F,F] rfl rfl HT_.out ?_
                 refine pU 4 (some 72) #[T,T,T,T,T,F,T,F,F,F,F,T,F,F,F,F,F,F,F,F,F,F,F,F,F,F] rfl rfl HT_.out ?_
                 refine tU11 5 (some 73) #[T,T,T,T,T,T,T,F,F,F,F,T,F,F,F,F,F,F,F,F,F,F,F,F,F,F] rfl rfl HT_.out HW_.out hHeld ?_
                 refine tU11 7 (some 75) #[T,T,T,T,T,T,T,T,F,F,F,T,F,F,F,F,F,F,F,F,F,F,F,F,F,F] rfl rfl HT_.out HW_.out hHeld ?_
                 refine pU 8 (some 76) #[T,T,T,T,T,T,T,T,T,F,F,T,F,F,F,F,F,F,F,F,F,F,F,F,F,F] rfl rfl HT_.out ?_
                 refine pU 9 (some 77) #[T,T,T,T,T,T,T,T,T,T,F,T,F,F,F,F,F,F,F,F,F,F,F,F,F,F] rfl rfl HT_.out ?_
                 refine tU11 10 (some 78) #[T,T,T,T,T,T,T,T,T,T,T,T,F,F,F,F,F,F,F,F,F,F,F,F,F,F] rfl rfl HT_.out HW_.out hHeld ?_
                 refine tU11 12 (some 80) #[T,T,T,T,T,T,T,T,T,T,T,T,T,F,F,F,F,F,F,F,F,F,F,F,F,F] rfl rfl HT_.out HW_.out hHeld ?_
                 refine one_ (i := 13) (N := some 81) #[T,T,T,T,T,T,T,T,T,T,T,T,T,T,F,F,F,F,F,F,F,F,F,F,F,F] rfl rfl (one_of HT_.out (by kernel_rfl)) (by decide) (fun K hK => ?_)
                 refine goes_ Tryd.func39 (by kernel_rfl) rfl #[.slice (some ad236) l0.length c0, .agg #[.int .i64 ((rd_T48 l1 (ji35)).f0), .int .i64 ((rd_T48 l1 (ji35)).f1), .int .i64 ((rd_T48 l1 (ji35)).f2)]] (by rfl) rfl rfl (by (try simp only [List.map_toArray, List.map_cons, List.map_nil]); first | done | (simp only [hji35]; rfl) | rfl | (simp only [List.length_drop, List.length_take]; rfl)) ?_
                 with_reducible refine (impl_ends.calls _ _ l0 ((rd_T48 l1 (ji35)).f0) ((rd_T48 l1 (ji35)).f1) ((rd_T48 l1 (ji35)).f2) t238 _ ?side1 ?side2 A42.out).mono ?_
                 (case side1 => repeat (first | exact (Kd.C_below HR0.out HB.out) | (with_reducible refine Kd.C_alloc ?_ _) | (with_reducible refine Kd.C_drewN ?_ _) | (with_reducible refine Kd.C_drew ?_)))
                 (case side2 => exact HC0.out)
                 rintro e w68 ⟨rfl, hb⟩
                 refine ⟨_, rfl, ?_⟩
                 have n0_ := Aside0.mk (blk_below (g := gb231) (o := .cells #[.int .i64 ((rd_T48 l1 x25_2).f0), .int .i64 ((rd_T48 l1 x25_2).f1), .int .i64 ((rd_T48 l1 x25_2).f2)] 48 (0, 0)) (nB BK231.out) hb)
                 have n1_ := Aside0.mk (blk_below (g := gb235) (o := .cells #[.int .i64 ((rd_T48 l1 (ji35)).f0), .int .i64 ((rd_T48 l1 (ji35)).f1), .int .i64 ((rd_T48 l1 (ji35)).f2)] 48 (0, 0)) (nB BK235.out) hb)
                 have n2_ := Aside0.mk (below_step (nH2 HB.out GE231.out GE235.out) hb)
                 clear BK231; clear BK235; clear HB; have BK231 := n0_; have BK235 := n1_; have HB := n2_; clear n0_ n1_ n2_; (try clear hb); (try clear hb2); (try clear hk); (try clear hi)
                 refine hK.out _ _ ⟨(blk_cell BK231.out 0).trans rfl, (blk_cell BK231.out 1).trans rfl, (blk_cell BK231.out 2).trans rfl, (blk_cell BK235.out 0).trans rfl, (blk_cell BK235.out 1).trans rfl, (blk_cell BK235.out 2).trans rfl, (nC HB.out hw236_0 :), (nC HB.out hw236_1 :), (nC HB.out hw237_0 :), (nC HB.out hw237_1 :), (nC HB.out hw237_2 :)⟩ (fun hHeld => ?_)
                 clear hK K
                 refine norm_ (a' := ?_) ?_ ?_
                 rotate_left
                 · show Act.put _ (some 81) _ = _
                   simp only [Act.put, List.setIfInBounds_toArray, List.set_cons_zero, List.set_cons_succ, i64_w, i32_w]
                   rfl
                 refine pU 14 (some 82) #[T,T,T,T,T,T,T,T,T,T,T,T,T,T,T,F,F,F,F,F,F,F,F,F,F,F] rfl rfl HT_.out ?_
                 refine pU 15 (some 83) #[T,T,T,T,T,T,T,T,T,T,T,T,T,T,T,T,F,F,F,F,F,F,F,F,F,F] rfl rfl HT_.out ?_
                 refine pV 16 (some 84) #[T,T,T,T,T,T,T,T,T,T,T,T,T,T,T,T,T,F,F,F,F,F,F,F,F,F] rfl rfl HT_.out ?_
                 refine pV 17 (some 85) #[T,T,T,T,T,T,T,T,T,T,T,T,T,T,T,T,T,T,F,F,F,F,F,F,F,F] rfl rfl HT_.out ?_
                 refine pV 18 (some 86) #[T,T,T,T,T,T,T,T,T,T,T,T,T,T,T,T,T,T,T,F,F,F,F,F,F,F] rfl rfl HT_.out ?_
                 refine pV 19 (some 87) #[T,T,T,T,T,T,T,T,T,T,T,T,T,T,T,T,T,T,T,T,F,F,F,F,F,F] rfl rfl HT_.out ?_
                 refine pV 20 (some 88) #[T,T,T,T,T,T,T,T,T,T,T,T,T,T,T,T,T,T,T,T,T,F,F,F,F,F] rfl rfl HT_.out ?_
                 refine pV 21 (some 89) #[T,T,T,T,T,T,T,T,T,T,T,T,T,T,T,T,T,T,T,T,T,T,F,F,F,F] rfl rfl HT_.out ?_
                 refine pV 22 (some 90) #[T,T,T,T,T,T,T,T,T,T,T,T,T,T,T,T,T,T,T,T,T,T,T,F,F,F] rfl rfl HT_.out ?_
                 refine pV 23 (some 91) #[T,T,T,T,T,T,T,T,T,T,T,T,T,T,T,T,T,T,T,T,T,T,T,T,F,F] rfl rfl HT_.out ?_
                 refine pV 24 (some 92) #[T,T,T,T,T,T,T,T,T,T,T,T,T,T,T,T,T,T,T,T,T,T,T,T,T,F] rfl rfl HT_.out ?_
                 refine pU 25 (some 93) #[T,T,T,T,T,T,T,T,T,T,T,T,T,T,T,T,T,T,T,T,T,T,T,T,T,T] rfl rfl HT_.out ?_
                 refine done_ (done_of HT_.out (by kernel_rfl)) ?_
                 try go_wp2
                 go_ret
                 exact ⟨by first | rfl | (simp [errW_none, errW_some] <;> rfl) | (simp only [← hji35]; first | rfl | (simp [errW_none, errW_some] <;> rfl)) | (simp [*, errW_none, errW_some] <;> first | rfl | (simp [wrap64]; done)), nH2 HB.out GE231.out GE235.out⟩
       · rw [if_neg c13] at H
         have c13b0 : decide (x25_2 < (l1.length : Int)) = false := decide_eq_false c13
         clear c13; obtain rfl := Option.some.inj H; go_wp2; go_ret
         exact ⟨by first | rfl | (simp [errW_none, errW_some] <;> rfl) | (simp [*, errW_none, errW_some] <;> first | rfl | (simp [wrap64]; done)), nH HB.out⟩
end Go.Proofs.YtdpjoblnjjkbfaaDoor.P

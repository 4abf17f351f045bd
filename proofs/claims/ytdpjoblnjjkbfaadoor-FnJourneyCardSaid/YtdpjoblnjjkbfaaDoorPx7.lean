/- Contracts of functions, each with its plain Lean function. -/
import Derived.Test.YtdpjoblnjjkbfaaDoorNe
import Derived.Test.YtdpjoblnjjkbfaaDoorNc
import Derived.Test.YtdpjoblnjjkbfaaDoorPx0
import Derived.Test.YtdpjoblnjjkbfaaDoorPx1
import Derived.Test.YtdpjoblnjjkbfaaDoorPx5
import Derived.Test.YtdpjoblnjjkbfaaDoorPx6
namespace Go.Proofs.YtdpjoblnjjkbfaaDoor.P
open Go.RowKit Go.Proofs.YtdpjoblnjjkbfaaDoorW.PrintWords Go.Proofs.YtdpjoblnjjkbfaaDoorW.PrintLast Go.Proofs.YtdpjoblnjjkbfaaDoorW.PrintMore
attribute [local go_sem] max2_int min2_int max_two min_two max_three min_three max_four min_four   -- for this text's walks alone
set_option linter.unusedVariables false
set_option linter.unusedSimpArgs false
/-! ### impl_LegsOk: function 19 -/
theorem impl_LegsOk.mono_l : ∀ k, (∀ y0 y1 y2 y3, LeO (impl_LegsOk.j0 k y0 y1 y2 y3) (impl_LegsOk.j0 (k + 1) y0 y1 y2 y3)) ∧ (∀ y0 y1 y2 y3 y4 y5, LeO (impl_LegsOk.l0 k y0 y1 y2 y3 y4 y5) (impl_LegsOk.l0 (k + 1) y0 y1 y2 y3 y4 y5)) ∧ (∀ y0 y1 y2 y3 y4 y5 y6 y7 y8 y9 y10, LeO (impl_LegsOk.j2 k y0 y1 y2 y3 y4 y5 y6 y7 y8 y9 y10) (impl_LegsOk.j2 (k + 1) y0 y1 y2 y3 y4 y5 y6 y7 y8 y9 y10))
 | 0 => ⟨fun _ _ _ _ r h => by simp [impl_LegsOk.j0] at h, fun _ _ _ _ _ _ r h => by simp [impl_LegsOk.l0] at h, fun _ _ _ _ _ _ _ _ _ _ _ r h => by simp [impl_LegsOk.j2] at h⟩
 | k + 1 => by
  obtain ⟨ih0, ih1, ih2⟩ := impl_LegsOk.mono_l k
  refine ⟨?_, ?_, ?_⟩
  all_goals intros
  all_goals first | unfold impl_LegsOk.j0 | unfold impl_LegsOk.l0 | unfold impl_LegsOk.j2
  all_goals
   repeat' first
   | (with_reducible exact ih0 _ _ _ _)
   | (with_reducible exact ih1 _ _ _ _ _ _)
   | (with_reducible exact ih2 _ _ _ _ _ _ _ _ _ _ _)
   | (with_reducible exact impl_TableOk.mono _ _)
   | (with_reducible exact LeO.refl _)
   | (with_reducible exact LeO.none _)
   | (with_reducible refine LeO.ite ?_ ?_)
   | (with_reducible refine LeO.bind ?_ (fun _ => ?_))
   | exact ih0 _ _ _ _
   | exact ih1 _ _ _ _ _ _
   | exact ih2 _ _ _ _ _ _ _ _ _ _ _
   | exact impl_TableOk.mono _ _
   | exact LeO.none _
   | refine LeO.ite ?_ ?_
   | refine LeO.bind ?_ (fun _ => ?_)
theorem impl_LegsOk.mono : ∀ a0 a1 a2 k, LeO (impl_LegsOk.f k a0 a1 a2) (impl_LegsOk.f (k + 1) a0 a1 a2) := by
 intro a0 a1 a2 k
 obtain ⟨ih0, ih1, ih2⟩ := impl_LegsOk.mono_l k
 unfold impl_LegsOk.f
 repeat' first
  | (with_reducible exact ih0 _ _ _ _)
  | (with_reducible exact ih1 _ _ _ _ _ _)
  | (with_reducible exact ih2 _ _ _ _ _ _ _ _ _ _ _)
  | (with_reducible exact impl_TableOk.mono _ _)
  | (with_reducible exact LeO.refl _)
  | (with_reducible exact LeO.none _)
  | (with_reducible refine LeO.ite ?_ ?_)
  | (with_reducible refine LeO.bind ?_ (fun _ => ?_))
  | exact ih0 _ _ _ _
  | exact ih1 _ _ _ _ _ _
  | exact ih2 _ _ _ _ _ _ _ _ _ _ _
  | exact impl_TableOk.mono _ _
  | exact LeO.none _
  | refine LeO.ite ?_ ?_
  | refine LeO.bind ?_ (fun _ => ?_)
def impl_LegsOk.T6 : Bool × List (List Nat × List Nat) := (true, [([], []), ([0], [0]), ([], []), ([2], [2]), ([3], [3]), ([1, 4], [1, 4]), ([5], [5]), ([6, 5], [6]), ([7], [7]), ([8, 7], [7, 8]), ([9, 7], [7, 9]), ([7, 10], [7, 10]), ([11, 7], [11]), ([12], [12]), ([13, 12], [12, 13]), ([12], [12]), ([15, 12], [12, 15]), ([14, 16, 12], [12, 14, 16]), ([12, 17], [12, 17]), ([18, 12], [18]), ([19], [19]), ([20, 19], [19, 20]), ([19], [19]), ([19], [19]), ([23, 19], [19, 23]), ([22, 24, 19], [19, 22, 24]), ([25, 19], [19, 25]), ([26, 19], [19, 26]), ([27, 19], [19, 27]), ([21, 28, 19], [19, 21, 28]), ([19, 29], [19, 29])])
def impl_LegsOk.B6 : List Nat := [0, 1, 0, 4, 12, 31, 63, 127, 255, 511, 1023, 2047, 4095, 8191, 16383, 8191, 40959, 131071, 262143, 524287, 1048575, 2097151, 1048575, 1048575, 9437183, 30408703, 63963135, 131071999, 265289727, 536870911, 1073741823]
theorem impl_LegsOk.tab6 : rtab .any (opsOf Tryd.f19 6) = impl_LegsOk.T6 := by kernel_rfl
theorem impl_LegsOk.bits6 : waitsOk impl_LegsOk.T6.2 impl_LegsOk.B6 = true := by kernel_rfl
def impl_LegsOk.T10 : Bool × List (List Nat × List Nat) := (true, [([], []), ([], []), ([1], [1]), ([0, 2], [0, 2]), ([3], [3]), ([4], [4]), ([], []), ([6], [6]), ([5, 7], [5, 7]), ([8], [8]), ([9], [9]), ([], []), ([], []), ([11, 12], [11, 12]), ([10, 13], [10, 13]), ([14, 13], [14]), ([15], [15]), ([15], [15]), ([16, 17, 15, 15], [15, 16, 17]), ([15], [15]), ([15], [15]), ([19, 20, 18, 15], [15, 19, 20]), ([15], [15]), ([21, 22, 15], [15, 21, 22]), ([18, 23, 15], [15, 18, 23]), ([15, 24], [15, 24])])
def impl_LegsOk.B10 : List Nat := [0, 0, 2, 7, 15, 31, 0, 64, 255, 511, 1023, 0, 0, 6144, 16383, 32767, 65535, 65535, 262143, 65535, 65535, 2097151, 65535, 8388607, 16777215, 33554431]
theorem impl_LegsOk.tab10 : rtab .any (opsOf Tryd.f19 10) = impl_LegsOk.T10 := by kernel_rfl
theorem impl_LegsOk.bits10 : waitsOk impl_LegsOk.T10.2 impl_LegsOk.B10 = true := by kernel_rfl
set_option maxHeartbeats 8000000 in
set_option maxRecDepth 100000 in
theorem impl_LegsOk.calls (k : Nat) (A0 : Option Addr) (c0 : Nat) (l0 : List (S46)) (A1 : Option Addr) (c1 : Nat) (l1 : List (S48)) (a2 : Int) (r : Bool) (w : World) (hr0 : Kd.C k46 w A0 l0.length l0) (hc0 : l0.length ≤ c0) (hr1 : Kd.C k48 w A1 l1.length l1) (hc1 : l1.length ≤ c1) (h : impl_LegsOk.f k l0 l1 a2 = some r) :
 Calls Tryd.prog 19 #[.slice A0 l0.length c0, .slice A1 l1.length c1, .int .i64 a2] w fun e w' => e = .returned (.bool r) ∧ Below w.heap.size w w' := by
 have hu48 := Tryd.underlying48
 have HR0 := aM hr0
 have HC0 := aM hc0
 clear hr0 hc0
 have HR1 := aM hr1
 have HC1 := aM hc1
 clear hr1 hc1
 have HB := aM (Below.refl w.heap.size w)
 have H : ((impl_TableOk.f k l0).bind fun t130 => (if t130 = true then ((impl_changeOk.f a2).bind fun t131 => (if t131 = true then (impl_LegsOk.j0 k l0 l1 a2 (decide ((l1.length : Int) > 5))) else (impl_LegsOk.j0 k l0 l1 a2 true))) else (impl_LegsOk.j0 k l0 l1 a2 true))) = some r := h
 clear h
 have HC4 := aM H
 clear H
 go_enter Tryd.func19, Tryd.ntmps19
 go_upto_region 1 with (fail)
 go_cut [22] (fun v22 wc => ∃ (kq : Nat) (x22_3 : Bool), v22 = .bool x22_3 ∧ Aside0 (impl_LegsOk.j0 kq l0 l1 a2 x22_3 = some r) ∧ Aside0 (kq ≤ k) ∧ Aside0 (Below w.heap.size w wc))
 case first =>
  have H := HC4.out; clear HC4
  obtain ⟨t130, A50, H⟩ := Option.bind_eq_some_iff.mp H
  have A5 := aM A50
  clear A50
  by_cases c6 : t130 = true
  · subst c6
    rw [if_pos rfl] at H
    obtain ⟨t131, A70, H⟩ := Option.bind_eq_some_iff.mp H
    have A7 := aM A70
    clear A70
    by_cases c8 : t131 = true
    · subst c8
      rw [if_pos rfl] at H
      have H' := aM H
      clear H
      go_wp2_with (first | ((with_reducible refine gate_callee (f := 42) rfl ?_); refine goesL_ (some 11) rfl rfl Tryd.func42 (by kernel_rfl) rfl #[.slice A0 l0.length c0] rfl nM ?_; (with_reducible refine (impl_TableOk.calls k _ _ l0 true _ ?side1 ?side2 A5.out).mono ?_); (case side1 => exact nD HR0.out HB.out); (case side2 => exact HC0.out); rintro e w9 ⟨rfl, hb⟩; refine ⟨_, rfl, ?_⟩; have n_ := aM (below_step (nH HB.out) hb); clear HB; have HB := n_; clear n_; (try clear hb); (try clear hb2); (try clear hk); (try clear hi)) | (go_at_call 43; (with_reducible refine (impl_changeOk.calls a2 true _ A7.out).mono ?_); rintro e w' ⟨rfl, ⟨nd, rfl⟩⟩))
      go_meet
      case rel => exact ⟨_, (decide ((l1.length : Int) > 5)), nS, H', ⟨by first | omega | exact Nat.le_refl _⟩, ⟨nH HB.out⟩⟩
    · replace c8 := Bool.eq_false_iff.mpr c8
      subst c8
      rw [if_neg nN] at H
      have H' := aM H
      clear H
      go_wp2_with (first | ((with_reducible refine gate_callee (f := 42) rfl ?_); refine goesL_ (some 11) rfl rfl Tryd.func42 (by kernel_rfl) rfl #[.slice A0 l0.length c0] rfl nM ?_; (with_reducible refine (impl_TableOk.calls k _ _ l0 true _ ?side1 ?side2 A5.out).mono ?_); (case side1 => exact nD HR0.out HB.out); (case side2 => exact HC0.out); rintro e w10 ⟨rfl, hb⟩; refine ⟨_, rfl, ?_⟩; have n_ := aM (below_step (nH HB.out) hb); clear HB; have HB := n_; clear n_; (try clear hb); (try clear hb2); (try clear hk); (try clear hi)) | (go_at_call 43; (with_reducible refine (impl_changeOk.calls a2 false _ A7.out).mono ?_); rintro e w' ⟨rfl, ⟨nd, rfl⟩⟩))
      go_meet
      case rel => exact ⟨_, (true), nS, H', ⟨by first | omega | exact Nat.le_refl _⟩, ⟨nH HB.out⟩⟩
  · replace c6 := Bool.eq_false_iff.mpr c6
    subst c6
    rw [if_neg nN] at H
    have H' := aM H
    clear H
    go_wp2_with (first | ((with_reducible refine gate_callee (f := 42) rfl ?_); refine goesL_ (some 11) rfl rfl Tryd.func42 (by kernel_rfl) rfl #[.slice A0 l0.length c0] rfl nM ?_; (with_reducible refine (impl_TableOk.calls k _ _ l0 false _ ?side1 ?side2 A5.out).mono ?_); (case side1 => exact nD HR0.out HB.out); (case side2 => exact HC0.out); rintro e w11 ⟨rfl, hb⟩; refine ⟨_, rfl, ?_⟩; have n_ := aM (below_step (nH HB.out) hb); clear HB; have HB := n_; clear n_; (try clear hb); (try clear hb2); (try clear hk); (try clear hi)))
    go_meet
    case rel => exact ⟨_, (true), nS, H', ⟨by first | omega | exact Nat.le_refl _⟩, ⟨nH HB.out⟩⟩
 case rest =>
  clear HC4; try clear c1; try clear p2; try clear c4; try clear c6; try clear c8
  obtain ⟨kq, x22_3, rfl, HA, HJ3, HB⟩ := hcut
  cases kq with
  | zero => exact absurd HA.out (by simp [impl_LegsOk.j0])
  | succ kj3 =>
   have H := HA.out; clear HA
   simp only [impl_LegsOk.j0] at H
   by_cases c12 : x22_3 = true
   · subst c12
     rw [if_pos rfl] at H; obtain rfl := Option.some.inj H; go_wp2; go_ret
     exact ⟨by first | rfl | (simp [errW_none, errW_some] <;> rfl) | (simp [*, errW_none, errW_some] <;> first | rfl | (simp [wrap64]; done)), nH HB.out⟩
   · replace c12 := Bool.eq_false_iff.mpr c12
     subst c12
     rw [if_neg nN] at H
     have H' := aM H
     clear H; go_wp2
     go_loopg [25] kj3 (fun kq v25 w' => ∃ (x25_2 : Int), v25 = .int .i64 x25_2 ∧ Aside0 (impl_LegsOk.l0 kq l0 l1 a2 l1 (l1.length : Int) x25_2 = some r) ∧ Aside0 (kq ≤ kj3) ∧ Aside0 (Below w.heap.size w w'))
     case atStart => exact ⟨(0), nS, H', ⟨Nat.le_refl _⟩, ⟨nH HB.out⟩⟩
     case round =>
      clear H'
      try clear c1; try clear p2; try clear c4; try clear c6; try clear p6; try clear c8; try clear c12; try clear p2
      obtain ⟨x25_2, rfl, HA, HK2, HB⟩ := hrel
      cases gk with
      | zero => exact absurd HA.out (by simp [impl_LegsOk.l0])
      | succ k2 =>
       have H := HA.out; clear HA
       simp only [impl_LegsOk.l0] at H
       by_cases c13 : x25_2 < (l1.length : Int)
       · rw [if_pos c13] at H
         have c13b0 : decide (x25_2 < (l1.length : Int)) = true := decide_eq_true c13
         clear c13
         by_cases c14 : 0 ≤ x25_2
         rotate_left
         · (rw [if_neg c14] at H; exact absurd H (by simp))
         rw [if_pos c14] at H
         have c14b0 : decide (0 ≤ x25_2) = true := decide_eq_true c14
         clear c14
         by_cases c15 : x25_2 < (l1.length : Int)
         rotate_left
         · (rw [if_neg c15] at H; exact absurd H (by simp))
         rw [if_pos c15] at H
         have c15b0 : decide (x25_2 < (l1.length : Int)) = true := decide_eq_true c15
         clear c15
         have HC16 := aM H
         clear H
         have p132 : 0 ≤ (x25_2 : Int) := of_decide_eq_true nQ
         have q132 : x25_2 < (l1.length : Int) := of_decide_eq_true nQ
         obtain ⟨ad132, e132, hx132_0, hx132_1, hx132_2⟩ := at_T48 HR1.out x25_2 p132 q132
         cases e132
         replace hx132_0 := (HB.out.cell (World.block_lt_of_cell? w _ hx132_0)).trans hx132_0
         replace hx132_1 := (HB.out.cell (World.block_lt_of_cell? w _ hx132_1)).trans hx132_1
         replace hx132_2 := (HB.out.cell (World.block_lt_of_cell? w _ hx132_2)).trans hx132_2
         replace p132 := eq_true p132; replace q132 := eq_true q132
         go_upto_region 6 with (first | ((with_reducible refine gate_dst (N := 8) rfl ?_); (try (refine gate_guard (by rfl) ?_; dsimp only)); refine box_event ?hg (N := 8) ?hd (cs := #[.int .i64 0, .int .i64 0, .int .i64 0]) (t := 48) ?hr ?_; (case hd => rfl); (case hg => rfl); (case hr => first | (go_simp; done) | (go_simp; rfl)); intro gb133 hg w17 hbox hb; have n_ := aA (below_step (nH HB.out) hb) <| aA (hbox) <| aA (bS hg (nH HB.out)) <| aM (bS hg (nH HB.out)); clear HB; obtain ⟨HB, BK133, GW133, GE133⟩ := n_; clear hb hbox hg; obtain ⟨hcz18_0, hcz18_1, hcz18_2, hfz18_0, hfz18_1, hfz18_2⟩ := nK3 BK133.out))
         (try simp only [Act.put, List.setIfInBounds_toArray, List.set_cons_zero, List.set_cons_succ])
         go_cut [60] (fun v60 wc => ∃ (kq : Nat) (x60_15 : Bool), v60 = .bool x60_15 ∧ Aside0 (impl_LegsOk.j2 kq l0 l1 a2 x25_2 l1 (l1.length : Int) x25_2 x60_15 ((rd_T48 l1 x25_2).f0) ((rd_T48 l1 x25_2).f1) ((rd_T48 l1 x25_2).f2) = some r) ∧ Aside0 (kq ≤ k2) ∧ Aside0 (wc.heap[gb133]? = some (.cells #[.int .i64 ((rd_T48 l1 x25_2).f0), .int .i64 ((rd_T48 l1 x25_2).f1), .int .i64 ((rd_T48 l1 x25_2).f2)] 48 (0, 0))) ∧ Aside0 (Below w.heap.size w wc))
         case first =>
          have H := HC16.out; clear HC16
          obtain ⟨t134, A190, H⟩ := Option.bind_eq_some_iff.mp H
          have A19 := aM A190
          clear A190
          by_cases c20 : t134 = true
          · subst c20
            rw [if_pos rfl] at H
            by_cases c21 : ((rd_T48 l1 x25_2).f1) < 0
            · rw [if_pos c21] at H
              have c21b0 : decide (((rd_T48 l1 x25_2).f1) < 0) = true := decide_eq_true c21
              clear c21
              (first | rw [c21b0] | (simp only [i64_w, i32_w]; rw [c21b0]) | skip)
              have H' := aM H
              clear H
              try go_wp2
              have n0_ : Aside0 ((((w17.setCell ⟨gb133, 0, none⟩ (.int .i64 ((rd_T48 l1 x25_2).f0))).setCell ⟨gb133, 1, none⟩ (.int .i64 ((rd_T48 l1 x25_2).f1))).setCell ⟨gb133, 2, none⟩ (.int .i64 ((rd_T48 l1 x25_2).f2))).heap[gb133]? = some (.cells #[.int .i64 ((rd_T48 l1 x25_2).f0), .int .i64 ((rd_T48 l1 x25_2).f1), .int .i64 ((rd_T48 l1 x25_2).f2)] 48 (0, 0))) := ⟨by refine nE ?_; refine blk_put (cs := #[.int .i64 ((rd_T48 l1 x25_2).f0), .int .i64 ((rd_T48 l1 x25_2).f1), .int .i64 0]) ?_ 2 _ rfl; refine nE ?_; refine blk_put (cs := #[.int .i64 ((rd_T48 l1 x25_2).f0), .int .i64 0, .int .i64 0]) ?_ 1 _ rfl; refine nE ?_; refine blk_put (cs := #[.int .i64 0, .int .i64 0, .int .i64 0]) ?_ 0 _ rfl; exact nB BK133.out⟩
              have n1_ : Aside0 (Below w.heap.size w (((w17.setCell ⟨gb133, 0, none⟩ (.int .i64 ((rd_T48 l1 x25_2).f0))).setCell ⟨gb133, 1, none⟩ (.int .i64 ((rd_T48 l1 x25_2).f1))).setCell ⟨gb133, 2, none⟩ (.int .i64 ((rd_T48 l1 x25_2).f2)))) := ⟨nH1 HB.out GE133.out⟩
              (try clear BK133); (try clear HB)
              generalize (((w17.setCell ⟨gb133, 0, none⟩ (.int .i64 ((rd_T48 l1 x25_2).f0))).setCell ⟨gb133, 1, none⟩ (.int .i64 ((rd_T48 l1 x25_2).f1))).setCell ⟨gb133, 2, none⟩ (.int .i64 ((rd_T48 l1 x25_2).f2))) = w22 at n0_ n1_ ⊢
              have BK133 := n0_; have HB := n1_; clear n0_ n1_
              have n_ := aA (blk_drew BK133.out) <| aM (below_drew1 HB.out); clear BK133 HB; obtain ⟨BK133, HB⟩ := n_
              refine start_ (n := 31) (S := fun w' => w'.cell? ⟨gb133, 0, none⟩ = some (.int .i64 ((rd_T48 l1 x25_2).f0)) ∧ w'.cell? ⟨gb133, 1, none⟩ = some (.int .i64 ((rd_T48 l1 x25_2).f1)) ∧ w'.cell? ⟨gb133, 2, none⟩ = some (.int .i64 ((rd_T48 l1 x25_2).f2))) (ds := []) #[F,F,F,F,F,F,F,F,F,F,F,F,F,F,F,F,F,F,F,F,F,F,F,F,F,F,F,F,F,F,F] (by kernel_rfl) rfl rfl ⟨(blk_cell BK133.out 0).trans rfl, (blk_cell BK133.out 1).trans rfl, (blk_cell BK133.out 2).trans rfl⟩ (fun hHeld => ?_); refine with_tabW impl_LegsOk.tab6 impl_LegsOk.bits6 (fun HT_ HW_ => ?_)
              generalize w22.drew = w23 at BK133 HB hHeld ⊢
              refine qU 0 (some 30) rfl rfl HT_.out ?_
              refine qU 2 (some 32) rfl rfl HT_.out ?_
              refine qU 3 (some 33) rfl rfl HT_.out ?_
              refine qU 4 (some 34) rfl rfl HT_.out ?_
              refine qT3 1 (some 31) rfl rfl HT_.out HW_.out hHeld ?_
              refine one_ (i := 5) (N := some 35) #[T,T,T,T,T,T,F,F,F,F,F,F,F,F,F,F,F,F,F,F,F,F,F,F,F,F,F,F,F,F,F] rfl rfl (one_of HT_.out (by kernel_rfl)) (by decide) (fun K hK => ?_)
              refine goes_ Tryd.func44 (by kernel_rfl) rfl #[.int .i64 ((rd_T48 l1 x25_2).f0), .int .i64 0, .int .i64 (wrap64 ((l0.length : Int) - 1))] (by rfl) rfl rfl nM ?_
              with_reducible refine (impl_between.calls ((rd_T48 l1 x25_2).f0) 0 (wrap64 ((l0.length : Int) - 1)) true _ A19.out).mono ?_
              rintro e w' ⟨rfl, ⟨nd, rfl⟩⟩
              refine ⟨_, rfl, ?_⟩
              refine hK.out _ _ ⟨(blk_cell BK133.out 0).trans rfl, (blk_cell BK133.out 1).trans rfl, (blk_cell BK133.out 2).trans rfl⟩ (fun hHeld => ?_)
              clear hK K
              refine norm_ (a' := ?_) ?_ ?_
              rotate_left
              · show Act.put _ (some 35) _ = _
                simp only [Act.put, List.setIfInBounds_toArray, List.set_cons_zero, List.set_cons_succ, i64_w, i32_w]
                rfl
              refine qU 6 (some 36) rfl rfl HT_.out ?_
              refine qU 7 (some 37) rfl rfl HT_.out ?_
              refine qU 8 (some 38) rfl rfl HT_.out ?_
              refine qT3 9 (some 39) rfl rfl HT_.out HW_.out hHeld ?_
              refine qU 10 (some 40) rfl rfl HT_.out ?_
              refine qU 11 (some 41) rfl rfl HT_.out ?_
              refine qU 12 (some 42) rfl rfl HT_.out ?_
              refine qV 13 (some 43) rfl rfl HT_.out ?_
              refine qV 14 (some 44) rfl rfl HT_.out ?_
              refine qV 15 (some 45) rfl rfl HT_.out ?_
              refine qV 16 (some 46) rfl rfl HT_.out ?_
              refine qV 17 (some 47) rfl rfl HT_.out ?_
              refine qU 18 (some 48) rfl rfl HT_.out ?_
              refine qU 19 (some 49) rfl rfl HT_.out ?_
              refine qV 20 (some 50) rfl rfl HT_.out ?_
              refine qV 21 (some 51) rfl rfl HT_.out ?_
              refine qV 22 (some 52) rfl rfl HT_.out ?_
              refine qV 23 (some 53) rfl rfl HT_.out ?_
              refine qV 24 (some 54) rfl rfl HT_.out ?_
              refine qV 25 (some 55) rfl rfl HT_.out ?_
              refine qV 26 (some 56) rfl rfl HT_.out ?_
              refine qV 27 (some 57) rfl rfl HT_.out ?_
              refine qV 28 (some 58) rfl rfl HT_.out ?_
              refine qV 29 (some 59) rfl rfl HT_.out ?_
              refine qU 30 (some 60) rfl rfl HT_.out ?_
              refine done_ (done_of HT_.out (by kernel_rfl)) ?_
              try go_wp2
              go_meet
              case rel => exact ⟨_, (true), nS, H', ⟨by have := HJ3.out; have := HK2.out; first | omega | exact Nat.le_refl _⟩, ⟨by exact nB BK133.out⟩, ⟨nH1 HB.out GE133.out⟩⟩
            · rw [if_neg c21] at H
              have c21b0 : decide (((rd_T48 l1 x25_2).f1) < 0) = false := decide_eq_false c21
              clear c21
              (first | rw [c21b0] | (simp only [i64_w, i32_w]; rw [c21b0]) | skip)
              by_cases c24 : ((rd_T48 l1 x25_2).f1) ≥ ((rd_T48 l1 x25_2).f2)
              · rw [if_pos c24] at H
                have c24b0 : decide (((rd_T48 l1 x25_2).f2) ≤ ((rd_T48 l1 x25_2).f1)) = true := decide_eq_true c24
                clear c24
                have H' := aM H
                clear H
                try go_wp2
                have n0_ : Aside0 ((((w17.setCell ⟨gb133, 0, none⟩ (.int .i64 ((rd_T48 l1 x25_2).f0))).setCell ⟨gb133, 1, none⟩ (.int .i64 ((rd_T48 l1 x25_2).f1))).setCell ⟨gb133, 2, none⟩ (.int .i64 ((rd_T48 l1 x25_2).f2))).heap[gb133]? = some (.cells #[.int .i64 ((rd_T48 l1 x25_2).f0), .int .i64 ((rd_T48 l1 x25_2).f1), .int .i64 ((rd_T48 l1 x25_2).f2)] 48 (0, 0))) := ⟨by refine nE ?_; refine blk_put (cs := #[.int .i64 ((rd_T48 l1 x25_2).f0), .int .i64 ((rd_T48 l1 x25_2).f1), .int .i64 0]) ?_ 2 _ rfl; refine nE ?_; refine blk_put (cs := #[.int .i64 ((rd_T48 l1 x25_2).f0), .int .i64 0, .int .i64 0]) ?_ 1 _ rfl; refine nE ?_; refine blk_put (cs := #[.int .i64 0, .int .i64 0, .int .i64 0]) ?_ 0 _ rfl; exact nB BK133.out⟩
                have n1_ : Aside0 (Below w.heap.size w (((w17.setCell ⟨gb133, 0, none⟩ (.int .i64 ((rd_T48 l1 x25_2).f0))).setCell ⟨gb133, 1, none⟩ (.int .i64 ((rd_T48 l1 x25_2).f1))).setCell ⟨gb133, 2, none⟩ (.int .i64 ((rd_T48 l1 x25_2).f2)))) := ⟨nH1 HB.out GE133.out⟩
                (try clear BK133); (try clear HB)
                generalize (((w17.setCell ⟨gb133, 0, none⟩ (.int .i64 ((rd_T48 l1 x25_2).f0))).setCell ⟨gb133, 1, none⟩ (.int .i64 ((rd_T48 l1 x25_2).f1))).setCell ⟨gb133, 2, none⟩ (.int .i64 ((rd_T48 l1 x25_2).f2))) = w25 at n0_ n1_ ⊢
                have BK133 := n0_; have HB := n1_; clear n0_ n1_
                have n_ := aA (blk_drew BK133.out) <| aM (below_drew1 HB.out); clear BK133 HB; obtain ⟨BK133, HB⟩ := n_
                refine start_ (n := 31) (S := fun w' => w'.cell? ⟨gb133, 0, none⟩ = some (.int .i64 ((rd_T48 l1 x25_2).f0)) ∧ w'.cell? ⟨gb133, 1, none⟩ = some (.int .i64 ((rd_T48 l1 x25_2).f1)) ∧ w'.cell? ⟨gb133, 2, none⟩ = some (.int .i64 ((rd_T48 l1 x25_2).f2))) (ds := []) #[F,F,F,F,F,F,F,F,F,F,F,F,F,F,F,F,F,F,F,F,F,F,F,F,F,F,F,F,F,F,F] (by kernel_rfl) rfl rfl ⟨(blk_cell BK133.out 0).trans rfl, (blk_cell BK133.out 1).trans rfl, (blk_cell BK133.out 2).trans rfl⟩ (fun hHeld => ?_); refine with_tabW impl_LegsOk.tab6 impl_LegsOk.bits6 (fun HT_ HW_ => ?_)
                generalize w25.drew = w26 at BK133 HB hHeld ⊢
                refine qU 0 (some 30) rfl rfl HT_.out ?_
                refine qU 2 (some 32) rfl rfl HT_.out ?_
                refine qU 3 (some 33) rfl rfl HT_.out ?_
                refine qU 4 (some 34) rfl rfl HT_.out ?_
                refine qT3 1 (some 31) rfl rfl HT_.out HW_.out hHeld ?_
                refine one_ (i := 5) (N := some 35) #[T,T,T,T,T,T,F,F,F,F,F,F,F,F,F,F,F,F,F,F,F,F,F,F,F,F,F,F,F,F,F] rfl rfl (one_of HT_.out (by kernel_rfl)) (by decide) (fun K hK => ?_)
                refine goes_ Tryd.func44 (by kernel_rfl) rfl #[.int .i64 ((rd_T48 l1 x25_2).f0), .int .i64 0, .int .i64 (wrap64 ((l0.length : Int) - 1))] (by rfl) rfl rfl nM ?_
                with_reducible refine (impl_between.calls ((rd_T48 l1 x25_2).f0) 0 (wrap64 ((l0.length : Int) - 1)) true _ A19.out).mono ?_
                rintro e w' ⟨rfl, ⟨nd, rfl⟩⟩
                refine ⟨_, rfl, ?_⟩
                refine hK.out _ _ ⟨(blk_cell BK133.out 0).trans rfl, (blk_cell BK133.out 1).trans rfl, (blk_cell BK133.out 2).trans rfl⟩ (fun hHeld => ?_)
                clear hK K
                refine norm_ (a' := ?_) ?_ ?_
                rotate_left
                · show Act.put _ (some 35) _ = _
                  simp only [Act.put, List.setIfInBounds_toArray, List.set_cons_zero, List.set_cons_succ, i64_w, i32_w]
                  rfl
                refine qU 6 (some 36) rfl rfl HT_.out ?_
                refine qU 7 (some 37) rfl rfl HT_.out ?_
                refine qU 8 (some 38) rfl rfl HT_.out ?_
                refine qT3 9 (some 39) rfl rfl HT_.out HW_.out hHeld ?_
                refine qU 10 (some 40) rfl rfl HT_.out ?_
                refine qU 11 (some 41) rfl rfl HT_.out ?_
                refine qU 12 (some 42) rfl rfl HT_.out ?_
                refine qU 13 (some 43) rfl rfl HT_.out ?_
                refine qU 15 (some 45) rfl rfl HT_.out ?_
                refine qT3 14 (some 44) rfl rfl HT_.out HW_.out hHeld ?_
                refine qT3 16 (some 46) rfl rfl HT_.out HW_.out hHeld ?_
                refine qU 17 (some 47) rfl rfl HT_.out ?_
                refine qU 18 (some 48) rfl rfl HT_.out ?_
                refine qU 19 (some 49) rfl rfl HT_.out ?_
                refine qV 20 (some 50) rfl rfl HT_.out ?_
                refine qV 21 (some 51) rfl rfl HT_.out ?_
                refine qV 22 (some 52) rfl rfl HT_.out ?_
                refine qV 23 (some 53) rfl rfl HT_.out ?_
                refine qV 24 (some 54) rfl rfl HT_.out ?_
                refine qV 25 (some 55) rfl rfl HT_.out ?_
                refine qV 26 (some 56) rfl rfl HT_.out ?_
                refine qV 27 (some 57) rfl rfl HT_.out ?_
                refine qV 28 (some 58) rfl rfl HT_.out ?_
                refine qV 29 (some 59) rfl rfl HT_.out ?_
                refine qU 30 (some 60) rfl rfl HT_.out ?_
                refine done_ (done_of HT_.out (by kernel_rfl)) ?_
                try go_wp2
                go_meet
                case rel => exact ⟨_, (true), nS, H', ⟨by have := HJ3.out; have := HK2.out; first | omega | exact Nat.le_refl _⟩, ⟨by exact nB BK133.out⟩, ⟨nH1 HB.out GE133.out⟩⟩
              · rw [if_neg c24] at H
                have c24b0 : decide (((rd_T48 l1 x25_2).f2) ≤ ((rd_T48 l1 x25_2).f1)) = false := decide_eq_false c24
                clear c24
                by_cases c27 : 0 ≤ ((rd_T48 l1 x25_2).f0)
                rotate_left
                · (rw [if_neg c27] at H; exact absurd H (by simp))
                rw [if_pos c27] at H
                have c27b0 : decide (0 ≤ ((rd_T48 l1 x25_2).f0)) = true := decide_eq_true c27
                clear c27
                by_cases c28 : ((rd_T48 l1 x25_2).f0) < (l0.length : Int)
                rotate_left
                · (rw [if_neg c28] at H; exact absurd H (by simp))
                rw [if_pos c28] at H
                have c28b0 : decide (((rd_T48 l1 x25_2).f0) < (l0.length : Int)) = true := decide_eq_true c28
                clear c28
                have H' := aM H
                clear H
                try go_wp2
                have n0_ : Aside0 ((((w17.setCell ⟨gb133, 0, none⟩ (.int .i64 ((rd_T48 l1 x25_2).f0))).setCell ⟨gb133, 1, none⟩ (.int .i64 ((rd_T48 l1 x25_2).f1))).setCell ⟨gb133, 2, none⟩ (.int .i64 ((rd_T48 l1 x25_2).f2))).heap[gb133]? = some (.cells #[.int .i64 ((rd_T48 l1 x25_2).f0), .int .i64 ((rd_T48 l1 x25_2).f1), .int .i64 ((rd_T48 l1 x25_2).f2)] 48 (0, 0))) := ⟨by refine nE ?_; refine blk_put (cs := #[.int .i64 ((rd_T48 l1 x25_2).f0), .int .i64 ((rd_T48 l1 x25_2).f1), .int .i64 0]) ?_ 2 _ rfl; refine nE ?_; refine blk_put (cs := #[.int .i64 ((rd_T48 l1 x25_2).f0), .int .i64 0, .int .i64 0]) ?_ 1 _ rfl; refine nE ?_; refine blk_put (cs := #[.int .i64 0, .int .i64 0, .int .i64 0]) ?_ 0 _ rfl; exact nB BK133.out⟩
                have n1_ : Aside0 (Below w.heap.size w (((w17.setCell ⟨gb133, 0, none⟩ (.int .i64 ((rd_T48 l1 x25_2).f0))).setCell ⟨gb133, 1, none⟩ (.int .i64 ((rd_T48 l1 x25_2).f1))).setCell ⟨gb133, 2, none⟩ (.int .i64 ((rd_T48 l1 x25_2).f2)))) := ⟨nH1 HB.out GE133.out⟩
                (try clear BK133); (try clear HB)
                generalize (((w17.setCell ⟨gb133, 0, none⟩ (.int .i64 ((rd_T48 l1 x25_2).f0))).setCell ⟨gb133, 1, none⟩ (.int .i64 ((rd_T48 l1 x25_2).f1))).setCell ⟨gb133, 2, none⟩ (.int .i64 ((rd_T48 l1 x25_2).f2))) = w29 at n0_ n1_ ⊢
                have BK133 := n0_; have HB := n1_; clear n0_ n1_
                have n_ := aA (blk_drew BK133.out) <| aM (below_drew1 HB.out); clear BK133 HB; obtain ⟨BK133, HB⟩ := n_
                have p135 : 0 ≤ (((rd_T48 l1 x25_2).f0) : Int) := of_decide_eq_true nQ
                have q135 : ((rd_T48 l1 x25_2).f0) < (l0.length : Int) := of_decide_eq_true nQ
                obtain ⟨ad135, A135_1, c135_1, e135, hx135_0, hx135_1, hl135_1, hi135_1⟩ := at_T46 HR0.out ((rd_T48 l1 x25_2).f0) p135 q135
                have hw135_1 := hx135_1; have hw135_0 := hx135_0; cases e135
                replace hx135_0 := (HB.out.cell (World.block_lt_of_cell? w _ hx135_0)).trans hx135_0
                replace hx135_1 := (HB.out.cell (World.block_lt_of_cell? w _ hx135_1)).trans hx135_1
                have HR135_1 := aM hi135_1
                have HC135_1 := aM hl135_1
                clear hi135_1 hl135_1; replace p135 := eq_true p135; replace q135 := eq_true q135
                refine start_ (n := 31) (S := fun w' => w'.cell? ⟨gb133, 0, none⟩ = some (.int .i64 ((rd_T48 l1 x25_2).f0)) ∧ w'.cell? ⟨gb133, 1, none⟩ = some (.int .i64 ((rd_T48 l1 x25_2).f1)) ∧ w'.cell? ⟨gb133, 2, none⟩ = some (.int .i64 ((rd_T48 l1 x25_2).f2)) ∧ w'.cell? (ad135.add ((((rd_T48 l1 x25_2).f0)).toNat * 2)) = some (.string ((rd_T46 l0 ((rd_T48 l1 x25_2).f0)).f0)) ∧ w'.cell? ⟨(ad135.add ((((rd_T48 l1 x25_2).f0)).toNat * 2)).block, (ad135.add ((((rd_T48 l1 x25_2).f0)).toNat * 2)).off + 1, none⟩ = some (.slice A135_1 ((rd_T46 l0 ((rd_T48 l1 x25_2).f0)).f1).length c135_1)) (ds := []) #[F,F,F,F,F,F,F,F,F,F,F,F,F,F,F,F,F,F,F,F,F,F,F,F,F,F,F,F,F,F,F] (by kernel_rfl) rfl rfl ⟨(blk_cell BK133.out 0).trans rfl, (blk_cell BK133.out 1).trans rfl, (blk_cell BK133.out 2).trans rfl, (nC HB.out hw135_0 :), (nC HB.out hw135_1 :)⟩ (fun hHeld => ?_); refine with_tabW impl_LegsOk.tab6 impl_LegsOk.bits6 (fun HT_ HW_ => ?_)
                generalize w29.drew = w30 at BK133 HB HR135_1 hx135_0 hx135_1 hHeld ⊢
                refine qU 0 (some 30) rfl rfl HT_.out ?_
                refine qU 2 (some 32) rfl rfl HT_.out ?_
                refine qU 3 (some 33) rfl rfl HT_.out ?_
                refine qU 4 (some 34) rfl rfl HT_.out ?_
                refine qT5 1 (some 31) rfl rfl HT_.out HW_.out hHeld ?_
                refine one_ (i := 5) (N := some 35) #[T,T,T,T,T,T,F,F,F,F,F,F,F,F,F,F,F,F,F,F,F,F,F,F,F,F,F,F,F,F,F] rfl rfl (one_of HT_.out (by kernel_rfl)) (by decide) (fun K hK => ?_)
                refine goes_ Tryd.func44 (by kernel_rfl) rfl #[.int .i64 ((rd_T48 l1 x25_2).f0), .int .i64 0, .int .i64 (wrap64 ((l0.length : Int) - 1))] (by rfl) rfl rfl nM ?_
                with_reducible refine (impl_between.calls ((rd_T48 l1 x25_2).f0) 0 (wrap64 ((l0.length : Int) - 1)) true _ A19.out).mono ?_
                rintro e w' ⟨rfl, ⟨nd, rfl⟩⟩
                refine ⟨_, rfl, ?_⟩
                refine hK.out _ _ ⟨(blk_cell BK133.out 0).trans rfl, (blk_cell BK133.out 1).trans rfl, (blk_cell BK133.out 2).trans rfl, (nC HB.out hw135_0 :), (nC HB.out hw135_1 :)⟩ (fun hHeld => ?_)
                clear hK K
                refine norm_ (a' := ?_) ?_ ?_
                rotate_left
                · show Act.put _ (some 35) _ = _
                  simp only [Act.put, List.setIfInBounds_toArray, List.set_cons_zero, List.set_cons_succ, i64_w, i32_w]
                  rfl
                refine qU 6 (some 36) rfl rfl HT_.out ?_
                refine qU 7 (some 37) rfl rfl HT_.out ?_
                refine qU 8 (some 38) rfl rfl HT_.out ?_
                refine qT5 9 (some 39) rfl rfl HT_.out HW_.out hHeld ?_
                refine qU 10 (some 40) rfl rfl HT_.out ?_
                refine qU 11 (some 41) rfl rfl HT_.out ?_
                refine qU 12 (some 42) rfl rfl HT_.out ?_
                refine qU 13 (some 43) rfl rfl HT_.out ?_
                refine qU 15 (some 45) rfl rfl HT_.out ?_
                refine qT5 14 (some 44) rfl rfl HT_.out HW_.out hHeld ?_
                refine qT5 16 (some 46) rfl rfl HT_.out HW_.out hHeld ?_
                refine qU 17 (some 47) rfl rfl HT_.out ?_
                refine qU 18 (some 48) rfl rfl HT_.out ?_
                refine qU 19 (some 49) rfl rfl HT_.out ?_
                refine qU 20 (some 50) rfl rfl HT_.out ?_
                refine qU 22 (some 52) rfl rfl HT_.out ?_
                refine qU 23 (some 53) rfl rfl HT_.out ?_
                refine qT5 21 (some 51) rfl rfl HT_.out HW_.out hHeld ?_
                refine qT5 24 (some 54) rfl rfl HT_.out HW_.out hHeld ?_
                refine qU 25 (some 55) rfl rfl HT_.out ?_
                refine qU 26 (some 56) rfl rfl HT_.out ?_
                refine qT5 27 (some 57) rfl rfl HT_.out HW_.out hHeld ?_
                refine qU 28 (some 58) rfl rfl HT_.out ?_
                refine qU 29 (some 59) rfl rfl HT_.out ?_
                refine qU 30 (some 60) rfl rfl HT_.out ?_
                refine done_ (done_of HT_.out (by kernel_rfl)) ?_
                try go_wp2
                go_meet
                case rel => exact ⟨_, (decide (((rd_T48 l1 x25_2).f2) ≥ (((rd_T46 l0 ((rd_T48 l1 x25_2).f0)).f1).length : Int))), nS, H', ⟨by have := HJ3.out; have := HK2.out; first | omega | exact Nat.le_refl _⟩, ⟨by exact nB BK133.out⟩, ⟨nH1 HB.out GE133.out⟩⟩
          · replace c20 := Bool.eq_false_iff.mpr c20
            subst c20
            rw [if_neg nN] at H
            have H' := aM H
            clear H
            try go_wp2
            have n0_ : Aside0 ((((w17.setCell ⟨gb133, 0, none⟩ (.int .i64 ((rd_T48 l1 x25_2).f0))).setCell ⟨gb133, 1, none⟩ (.int .i64 ((rd_T48 l1 x25_2).f1))).setCell ⟨gb133, 2, none⟩ (.int .i64 ((rd_T48 l1 x25_2).f2))).heap[gb133]? = some (.cells #[.int .i64 ((rd_T48 l1 x25_2).f0), .int .i64 ((rd_T48 l1 x25_2).f1), .int .i64 ((rd_T48 l1 x25_2).f2)] 48 (0, 0))) := ⟨by refine nE ?_; refine blk_put (cs := #[.int .i64 ((rd_T48 l1 x25_2).f0), .int .i64 ((rd_T48 l1 x25_2).f1), .int .i64 0]) ?_ 2 _ rfl; refine nE ?_; refine blk_put (cs := #[.int .i64 ((rd_T48 l1 x25_2).f0), .int .i64 0, .int .i64 0]) ?_ 1 _ rfl; refine nE ?_; refine blk_put (cs := #[.int .i64 0, .int .i64 0, .int .i64 0]) ?_ 0 _ rfl; exact nB BK133.out⟩
            have n1_ : Aside0 (Below w.heap.size w (((w17.setCell ⟨gb133, 0, none⟩ (.int .i64 ((rd_T48 l1 x25_2).f0))).setCell ⟨gb133, 1, none⟩ (.int .i64 ((rd_T48 l1 x25_2).f1))).setCell ⟨gb133, 2, none⟩ (.int .i64 ((rd_T48 l1 x25_2).f2)))) := ⟨nH1 HB.out GE133.out⟩
            (try clear BK133); (try clear HB)
            generalize (((w17.setCell ⟨gb133, 0, none⟩ (.int .i64 ((rd_T48 l1 x25_2).f0))).setCell ⟨gb133, 1, none⟩ (.int .i64 ((rd_T48 l1 x25_2).f1))).setCell ⟨gb133, 2, none⟩ (.int .i64 ((rd_T48 l1 x25_2).f2))) = w31 at n0_ n1_ ⊢
            have BK133 := n0_; have HB := n1_; clear n0_ n1_
            have n_ := aA (blk_drew BK133.out) <| aM (below_drew1 HB.out); clear BK133 HB; obtain ⟨BK133, HB⟩ := n_
            refine start_ (n := 31) (S := fun w' => w'.cell? ⟨gb133, 0, none⟩ = some (.int .i64 ((rd_T48 l1 x25_2).f0)) ∧ w'.cell? ⟨gb133, 1, none⟩ = some (.int .i64 ((rd_T48 l1 x25_2).f1)) ∧ w'.cell? ⟨gb133, 2, none⟩ = some (.int .i64 ((rd_T48 l1 x25_2).f2))) (ds := []) #[F,F,F,F,F,F,F,F,F,F,F,F,F,F,F,F,F,F,F,F,F,F,F,F,F,F,F,F,F,F,F] (by kernel_rfl) rfl rfl ⟨(blk_cell BK133.out 0).trans rfl, (blk_cell BK133.out 1).trans rfl, (blk_cell BK133.out 2).trans rfl⟩ (fun hHeld => ?_); refine with_tabW impl_LegsOk.tab6 impl_LegsOk.bits6 (fun HT_ HW_ => ?_)
            generalize w31.drew = w32 at BK133 HB hHeld ⊢
            refine qU 0 (some 30) rfl rfl HT_.out ?_
            refine qU 2 (some 32) rfl rfl HT_.out ?_
            refine qU 3 (some 33) rfl rfl HT_.out ?_
            refine qU 4 (some 34) rfl rfl HT_.out ?_
            refine qT3 1 (some 31) rfl rfl HT_.out HW_.out hHeld ?_
            refine one_ (i := 5) (N := some 35) #[T,T,T,T,T,T,F,F,F,F,F,F,F,F,F,F,F,F,F,F,F,F,F,F,F,F,F,F,F,F,F] rfl rfl (one_of HT_.out (by kernel_rfl)) (by decide) (fun K hK => ?_)
            refine goes_ Tryd.func44 (by kernel_rfl) rfl #[.int .i64 ((rd_T48 l1 x25_2).f0), .int .i64 0, .int .i64 (wrap64 ((l0.length : Int) - 1))] (by rfl) rfl rfl nM ?_
            with_reducible refine (impl_between.calls ((rd_T48 l1 x25_2).f0) 0 (wrap64 ((l0.length : Int) - 1)) false _ A19.out).mono ?_
            rintro e w' ⟨rfl, ⟨nd, rfl⟩⟩
            refine ⟨_, rfl, ?_⟩
            refine hK.out _ _ ⟨(blk_cell BK133.out 0).trans rfl, (blk_cell BK133.out 1).trans rfl, (blk_cell BK133.out 2).trans rfl⟩ (fun hHeld => ?_)
            clear hK K
            refine norm_ (a' := ?_) ?_ ?_
            rotate_left
            · show Act.put _ (some 35) _ = _
              simp only [Act.put, List.setIfInBounds_toArray, List.set_cons_zero, List.set_cons_succ, i64_w, i32_w]
              rfl
            refine qU 6 (some 36) rfl rfl HT_.out ?_
            refine qU 7 (some 37) rfl rfl HT_.out ?_
            refine qV 8 (some 38) rfl rfl HT_.out ?_
            refine qV 9 (some 39) rfl rfl HT_.out ?_
            refine qV 10 (some 40) rfl rfl HT_.out ?_
            refine qU 11 (some 41) rfl rfl HT_.out ?_
            refine qU 12 (some 42) rfl rfl HT_.out ?_
            refine qV 13 (some 43) rfl rfl HT_.out ?_
            refine qV 14 (some 44) rfl rfl HT_.out ?_
            refine qV 15 (some 45) rfl rfl HT_.out ?_
            refine qV 16 (some 46) rfl rfl HT_.out ?_
            refine qV 17 (some 47) rfl rfl HT_.out ?_
            refine qU 18 (some 48) rfl rfl HT_.out ?_
            refine qU 19 (some 49) rfl rfl HT_.out ?_
            refine qV 20 (some 50) rfl rfl HT_.out ?_
            refine qV 21 (some 51) rfl rfl HT_.out ?_
            refine qV 22 (some 52) rfl rfl HT_.out ?_
            refine qV 23 (some 53) rfl rfl HT_.out ?_
            refine qV 24 (some 54) rfl rfl HT_.out ?_
            refine qV 25 (some 55) rfl rfl HT_.out ?_
            refine qV 26 (some 56) rfl rfl HT_.out ?_
            refine qV 27 (some 57) rfl rfl HT_.out ?_
            refine qV 28 (some 58) rfl rfl HT_.out ?_
            refine qV 29 (some 59) rfl rfl HT_.out ?_
            refine qU 30 (some 60) rfl rfl HT_.out ?_
            refine done_ (done_of HT_.out (by kernel_rfl)) ?_
            try go_wp2
            go_meet
            case rel => exact ⟨_, (true), nS, H', ⟨by have := HJ3.out; have := HK2.out; first | omega | exact Nat.le_refl _⟩, ⟨by exact nB BK133.out⟩, ⟨nH1 HB.out GE133.out⟩⟩
         case rest =>
          clear HC16; try clear c1; try clear p1; try clear q1; try clear hx1; try clear c2; try clear p2; try clear c4; try clear p6; try clear c13; try clear p13; try clear q13; try clear hx13; try clear c20; try clear c24; try clear c24b0; try clear c27; try clear c27b0; try clear c28; try clear c28b0; try clear hx135_0; try clear hx135_1; try clear p135; try clear q135
          obtain ⟨kq, x60_15, rfl, HA, HJ15, BK133, HB⟩ := hcut
          cases kq with
          | zero => exact absurd HA.out (by simp [impl_LegsOk.j2])
          | succ kj15 =>
           have H := HA.out; clear HA
           simp only [impl_LegsOk.j2] at H
           by_cases c33 : x60_15 = true
           · subst c33
             rw [if_pos rfl] at H; obtain rfl := Option.some.inj H; go_wp2; go_ret
             exact ⟨by first | rfl | (simp [errW_none, errW_some] <;> rfl) | (simp [*, errW_none, errW_some] <;> first | rfl | (simp [wrap64]; done)), nH1 HB.out GE133.out⟩
           · replace c33 := Bool.eq_false_iff.mpr c33
             subst c33
             rw [if_neg nN] at H
             by_cases c34 : x25_2 = 0
             · rw [if_pos c34] at H
               have c34b0 : (x25_2 == 0) = true := beq_iff_eq.mpr c34
               have c34b1 : (x25_2 != 0) = false := bne_eq_false_iff_eq.mpr c34
               clear c34
               have H' := aM H
               clear H; go_wp2
               go_roundg kj15
               case measure => have := HJ3.out; have := HK2.out; have := HJ15.out; omega
               case rel => exact ⟨(wrap64 (x25_2 + 1)), nS, H', ⟨by have := HJ3.out; have := HK2.out; have := HJ15.out; omega⟩, ⟨nH1 HB.out GE133.out⟩⟩
             · rw [if_neg c34] at H
               have c34b0 : (x25_2 == 0) = false := beq_eq_false_iff_ne.mpr c34
               have c34b1 : (x25_2 != 0) = true := bne_iff_ne.mpr c34
               obtain ⟨ji35, hji35⟩ : ∃ j_ : Int, (wrap64 (x25_2 - 1)) = j_ := ⟨_, rfl⟩
               replace H : (if 0 ≤ (ji35) then (if (ji35) < (l1.length : Int) then (if 0 ≤ ((rd_T48 l1 x25_2).f0) then (if ((rd_T48 l1 x25_2).f0) < (l0.length : Int) then (if 0 ≤ ((rd_T48 l1 x25_2).f1) then (if ((rd_T48 l1 x25_2).f1) < (((rd_T46 l0 ((rd_T48 l1 x25_2).f0)).f1).length : Int) then ((impl_ends.f l0 ((rd_T48 l1 (ji35)).f0) ((rd_T48 l1 (ji35)).f1) ((rd_T48 l1 (ji35)).f2)).bind fun t140 => (if ((rd_T43 ((rd_T46 l0 ((rd_T48 l1 x25_2).f0)).f1) ((rd_T48 l1 x25_2).f1)).f0) = t140 then ((impl_leaves.f l0 ((rd_T48 l1 x25_2).f0) ((rd_T48 l1 x25_2).f1) ((rd_T48 l1 x25_2).f2)).bind fun t141 => ((impl_arrives.f l0 ((rd_T48 l1 (ji35)).f0) ((rd_T48 l1 (ji35)).f1) ((rd_T48 l1 (ji35)).f2)).bind fun t142 => (if t141 < (wrap64 (t142 + a2)) then (some false) else (impl_LegsOk.l0 kj15 l0 l1 a2 l1 (l1.length : Int) (wrap64 (x25_2 + 1)))))) else (some false))) else (none)) else (none)) else (none)) else (none)) else (none)) else (none)) = some r := by first | (rw [hji35] at H; exact H) | (simp only [hji35] at H ⊢; exact H)
               have hji35w : (IntKind.i64.wrap (x25_2 - 1)) = ji35 := (i64_w _).trans hji35
               by_cases c36 : 0 ≤ (ji35)
               rotate_left
               · (rw [if_neg c36] at H; exact absurd H (by simp))
               rw [if_pos c36] at H
               have c36b0 : decide (0 ≤ (ji35)) = true := decide_eq_true c36
               clear c36
               by_cases c37 : (ji35) < (l1.length : Int)
               rotate_left
               · (rw [if_neg c37] at H; exact absurd H (by simp))
               rw [if_pos c37] at H
               have c37b0 : decide ((ji35) < (l1.length : Int)) = true := decide_eq_true c37
               clear c37
               by_cases c38 : 0 ≤ ((rd_T48 l1 x25_2).f0)
               rotate_left
               · (rw [if_neg c38] at H; exact absurd H (by simp))
               rw [if_pos c38] at H
               have c38b0 : decide (0 ≤ ((rd_T48 l1 x25_2).f0)) = true := decide_eq_true c38
               clear c38
               by_cases c39 : ((rd_T48 l1 x25_2).f0) < (l0.length : Int)
               rotate_left
               · (rw [if_neg c39] at H; exact absurd H (by simp))
               rw [if_pos c39] at H
               have c39b0 : decide (((rd_T48 l1 x25_2).f0) < (l0.length : Int)) = true := decide_eq_true c39
               clear c39
               by_cases c40 : 0 ≤ ((rd_T48 l1 x25_2).f1)
               rotate_left
               · (rw [if_neg c40] at H; exact absurd H (by simp))
               rw [if_pos c40] at H
               have c40b0 : decide (0 ≤ ((rd_T48 l1 x25_2).f1)) = true := decide_eq_true c40
               clear c40
               by_cases c41 : ((rd_T48 l1 x25_2).f1) < (((rd_T46 l0 ((rd_T48 l1 x25_2).f0)).f1).length : Int)
               rotate_left
               · (rw [if_neg c41] at H; exact absurd H (by simp))
               rw [if_pos c41] at H
               have c41b0 : decide (((rd_T48 l1 x25_2).f1) < (((rd_T46 l0 ((rd_T48 l1 x25_2).f0)).f1).length : Int)) = true := decide_eq_true c41
               clear c41
               obtain ⟨t140, A420, H⟩ := Option.bind_eq_some_iff.mp H
               have A42 := aM A420
               clear A420
               by_cases c43 : ((rd_T43 ((rd_T46 l0 ((rd_T48 l1 x25_2).f0)).f1) ((rd_T48 l1 x25_2).f1)).f0) = t140
               · rw [if_pos c43] at H
                 have c43b0 : (((rd_T43 ((rd_T46 l0 ((rd_T48 l1 x25_2).f0)).f1) ((rd_T48 l1 x25_2).f1)).f0) == t140) = true := beq_iff_eq.mpr c43
                 have c43b1 : (((rd_T43 ((rd_T46 l0 ((rd_T48 l1 x25_2).f0)).f1) ((rd_T48 l1 x25_2).f1)).f0) != t140) = false := bne_eq_false_iff_eq.mpr c43
                 clear c43
                 obtain ⟨t141, A440, H⟩ := Option.bind_eq_some_iff.mp H
                 have A44 := aM A440
                 clear A440
                 obtain ⟨t142, A450, H⟩ := Option.bind_eq_some_iff.mp H
                 have A45 := aM A450
                 clear A450
                 by_cases c46 : t141 < (wrap64 (t142 + a2))
                 · rw [if_pos c46] at H
                   have c46b0 : decide (t141 < (wrap64 (t142 + a2))) = true := decide_eq_true c46
                   clear c46; obtain rfl := Option.some.inj H
                   have p136 : 0 ≤ ((ji35) : Int) := of_decide_eq_true nQ
                   have q136 : (ji35) < (l1.length : Int) := of_decide_eq_true nQ
                   obtain ⟨ad136, e136, hx136_0, hx136_1, hx136_2⟩ := at_T48 HR1.out (ji35) p136 q136
                   obtain rfl : ad132 = ad136 := (by injection e136)
                   replace hx136_0 := (HB.out.cell (World.block_lt_of_cell? w _ hx136_0)).trans hx136_0
                   replace hx136_1 := (HB.out.cell (World.block_lt_of_cell? w _ hx136_1)).trans hx136_1
                   replace hx136_2 := (HB.out.cell (World.block_lt_of_cell? w _ hx136_2)).trans hx136_2
                   replace p136 := eq_true p136; replace q136 := eq_true q136
                   try go_wp2_with (first | ((with_reducible refine gate_dst (N := 9) rfl ?_); (try (refine gate_guard (by rfl) ?_; dsimp only)); refine box_event ?hg (N := 9) ?hd (cs := #[.int .i64 0, .int .i64 0, .int .i64 0]) (t := 48) ?hr ?_; (case hd => rfl); (case hg => rfl); (case hr => first | (go_simp; done) | (go_simp; rfl)); intro gb137 hg w47 hbox hb; have n_ := aA (nBB BK133.out hb) <| aA (below_step (nH1 HB.out GE133.out) hb) <| aA (hbox) <| aA (bS hg (nH1 HB.out GE133.out)) <| aA (bS hg (nH1 HB.out GE133.out)) <| aA (nBL BK133.out hg) <| aM (by rw [hg]; exact Nat.ne_of_gt (blk_lt (g := gb133) (o := .cells #[.int .i64 ((rd_T48 l1 x25_2).f0), .int .i64 ((rd_T48 l1 x25_2).f1), .int .i64 ((rd_T48 l1 x25_2).f2)] 48 (0, 0)) (nB BK133.out)) : gb137 ≠ gb133); clear BK133 HB; obtain ⟨BK133, HB, BK137, GW137, GE137, NB133_137, NB137_133⟩ := n_; clear hb hbox hg; have hnb48 := NB137_133.out; have hnc48 := NB133_137.out; obtain ⟨hcz49_0, hcz49_1, hcz49_2, hfz49_0, hfz49_1, hfz49_2⟩ := nK3 BK137.out))
                   have n0_ : Aside0 ((((w47.setCell ⟨gb137, 0, none⟩ (.int .i64 ((rd_T48 l1 (ji35)).f0))).setCell ⟨gb137, 1, none⟩ (.int .i64 ((rd_T48 l1 (ji35)).f1))).setCell ⟨gb137, 2, none⟩ (.int .i64 ((rd_T48 l1 (ji35)).f2))).heap[gb133]? = some (.cells #[.int .i64 ((rd_T48 l1 x25_2).f0), .int .i64 ((rd_T48 l1 x25_2).f1), .int .i64 ((rd_T48 l1 x25_2).f2)] 48 (0, 0))) := ⟨by refine nE ?_; refine blk_far ?_ NB133_137.out _; refine nE ?_; refine blk_far ?_ NB133_137.out _; refine nE ?_; refine blk_far ?_ NB133_137.out _; exact nB BK133.out⟩
                   have n1_ : Aside0 ((((w47.setCell ⟨gb137, 0, none⟩ (.int .i64 ((rd_T48 l1 (ji35)).f0))).setCell ⟨gb137, 1, none⟩ (.int .i64 ((rd_T48 l1 (ji35)).f1))).setCell ⟨gb137, 2, none⟩ (.int .i64 ((rd_T48 l1 (ji35)).f2))).heap[gb137]? = some (.cells #[.int .i64 ((rd_T48 l1 (ji35)).f0), .int .i64 ((rd_T48 l1 (ji35)).f1), .int .i64 ((rd_T48 l1 (ji35)).f2)] 48 (0, 0))) := ⟨by refine nE ?_; refine blk_put (cs := #[.int .i64 ((rd_T48 l1 (ji35)).f0), .int .i64 ((rd_T48 l1 (ji35)).f1), .int .i64 0]) ?_ 2 _ rfl; refine nE ?_; refine blk_put (cs := #[.int .i64 ((rd_T48 l1 (ji35)).f0), .int .i64 0, .int .i64 0]) ?_ 1 _ rfl; refine nE ?_; refine blk_put (cs := #[.int .i64 0, .int .i64 0, .int .i64 0]) ?_ 0 _ rfl; exact nB BK137.out⟩
                   have n2_ : Aside0 (Below w.heap.size w (((w47.setCell ⟨gb137, 0, none⟩ (.int .i64 ((rd_T48 l1 (ji35)).f0))).setCell ⟨gb137, 1, none⟩ (.int .i64 ((rd_T48 l1 (ji35)).f1))).setCell ⟨gb137, 2, none⟩ (.int .i64 ((rd_T48 l1 (ji35)).f2)))) := ⟨nH2 HB.out GE133.out GE137.out⟩
                   (try clear BK133); (try clear BK137); (try clear HB)
                   generalize (((w47.setCell ⟨gb137, 0, none⟩ (.int .i64 ((rd_T48 l1 (ji35)).f0))).setCell ⟨gb137, 1, none⟩ (.int .i64 ((rd_T48 l1 (ji35)).f1))).setCell ⟨gb137, 2, none⟩ (.int .i64 ((rd_T48 l1 (ji35)).f2))) = w50 at n0_ n1_ n2_ ⊢
                   have BK133 := n0_; have BK137 := n1_; have HB := n2_; clear n0_ n1_ n2_
                   have n_ := aA (blk_drew BK133.out) <| aA (blk_drew BK137.out) <| aM (below_drew1 HB.out); clear BK133 BK137 HB; obtain ⟨BK133, BK137, HB⟩ := n_
                   have p138 : 0 ≤ (((rd_T48 l1 x25_2).f0) : Int) := of_decide_eq_true nQ
                   have q138 : ((rd_T48 l1 x25_2).f0) < (l0.length : Int) := of_decide_eq_true nQ
                   obtain ⟨ad138, A138_1, c138_1, e138, hx138_0, hx138_1, hl138_1, hi138_1⟩ := at_T46 HR0.out ((rd_T48 l1 x25_2).f0) p138 q138
                   have hw138_1 := hx138_1; have hw138_0 := hx138_0; cases e138
                   replace hx138_0 := (HB.out.cell (World.block_lt_of_cell? w _ hx138_0)).trans hx138_0
                   replace hx138_1 := (HB.out.cell (World.block_lt_of_cell? w _ hx138_1)).trans hx138_1
                   have HR138_1 := aM hi138_1
                   have HC138_1 := aM hl138_1
                   clear hi138_1 hl138_1; replace p138 := eq_true p138; replace q138 := eq_true q138
                   have p139 : 0 ≤ (((rd_T48 l1 x25_2).f1) : Int) := of_decide_eq_true nQ
                   have q139 : ((rd_T48 l1 x25_2).f1) < (((rd_T46 l0 ((rd_T48 l1 x25_2).f0)).f1).length : Int) := of_decide_eq_true nQ
                   obtain ⟨ad139, e139, hx139_0, hx139_1, hx139_2⟩ := at_T43 HR138_1.out ((rd_T48 l1 x25_2).f1) p139 q139
                   have hw139_2 := hx139_2; have hw139_1 := hx139_1; have hw139_0 := hx139_0; cases e139
                   replace hx139_0 := (HB.out.cell (World.block_lt_of_cell? w _ hx139_0)).trans hx139_0
                   replace hx139_1 := (HB.out.cell (World.block_lt_of_cell? w _ hx139_1)).trans hx139_1
                   replace hx139_2 := (HB.out.cell (World.block_lt_of_cell? w _ hx139_2)).trans hx139_2
                   replace p139 := eq_true p139; replace q139 := eq_true q139
                   refine start_ (n := 26) (S := fun w' => w'.cell? ⟨gb133, 0, none⟩ = some (.int .i64 ((rd_T48 l1 x25_2).f0)) ∧ w'.cell? ⟨gb133, 1, none⟩ = some (.int .i64 ((rd_T48 l1 x25_2).f1)) ∧ w'.cell? ⟨gb133, 2, none⟩ = some (.int .i64 ((rd_T48 l1 x25_2).f2)) ∧ w'.cell? ⟨gb137, 0, none⟩ = some (.int .i64 ((rd_T48 l1 (ji35)).f0)) ∧ w'.cell? ⟨gb137, 1, none⟩ = some (.int .i64 ((rd_T48 l1 (ji35)).f1)) ∧ w'.cell? ⟨gb137, 2, none⟩ = some (.int .i64 ((rd_T48 l1 (ji35)).f2)) ∧ w'.cell? (ad138.add ((((rd_T48 l1 x25_2).f0)).toNat * 2)) = some (.string ((rd_T46 l0 ((rd_T48 l1 x25_2).f0)).f0)) ∧ w'.cell? ⟨(ad138.add ((((rd_T48 l1 x25_2).f0)).toNat * 2)).block, (ad138.add ((((rd_T48 l1 x25_2).f0)).toNat * 2)).off + 1, none⟩ = some (.slice (some ad139) ((rd_T46 l0 ((rd_T48 l1 x25_2).f0)).f1).length c138_1) ∧ w'.cell? (ad139.add ((((rd_T48 l1 x25_2).f1)).toNat * 3)) = some (.int .i64 ((rd_T43 ((rd_T46 l0 ((rd_T48 l1 x25_2).f0)).f1) ((rd_T48 l1 x25_2).f1)).f0)) ∧ w'.cell? ⟨(ad139.add ((((rd_T48 l1 x25_2).f1)).toNat * 3)).block, (ad139.add ((((rd_T48 l1 x25_2).f1)).toNat * 3)).off + 1, none⟩ = some (.int .i64 ((rd_T43 ((rd_T46 l0 ((rd_T48 l1 x25_2).f0)).f1) ((rd_T48 l1 x25_2).f1)).f1)) ∧ w'.cell? ⟨(ad139.add ((((rd_T48 l1 x25_2).f1)).toNat * 3)).block, (ad139.add ((((rd_T48 l1 x25_2).f1)).toNat * 3)).off + 2, none⟩ = some (.int .i64 ((rd_T43 ((rd_T46 l0 ((rd_T48 l1 x25_2).f0)).f1) ((rd_T48 l1 x25_2).f1)).f2))) (ds := []) #[F,F,F,F,F,F,F,F,F,F,F,F,F,F,F,F,F,F,F,F,F,F,F,F,F,F] (by kernel_rfl) rfl rfl ⟨(blk_cell BK133.out 0).trans rfl, (blk_cell BK133.out 1).trans rfl, (blk_cell BK133.out 2).trans rfl, (blk_cell BK137.out 0).trans rfl, (blk_cell BK137.out 1).trans rfl, (blk_cell BK137.out 2).trans rfl, (nC HB.out hw138_0 :), (nC HB.out hw138_1 :), (nC HB.out hw139_0 :), (nC HB.out hw139_1 :), (nC HB.out hw139_2 :)⟩ (fun hHeld => ?_); refine with_tabW impl_LegsOk.tab10 impl_LegsOk.bits10 (fun HT_ HW_ => ?_)
                   generalize w50.drew = w51 at BK133 BK137 HB HR138_1 hx138_0 hx138_1 hx139_0 hx139_1 hx139_2 hHeld ⊢
                   refine qU 0 (some 68) rfl rfl HT_.out ?_
                   refine qU 1 (some 69) rfl rfl HT_.out ?_
                   refine qU 6 (some 74) rfl rfl HT_.out ?_
                   refine qU 11 (some 79) rfl rfl HT_.out ?_
                   refine qT11 2 (some 70) rfl rfl HT_.out HW_.out hHeld ?_
                   refine qU 3 (some 71) rfl rfl HT_.out ?_
                   refine qU 4 (some 72) rfl rfl HT_.out ?_
                   refine qT11 5 (some 73) rfl rfl HT_.out HW_.out hHeld ?_
                   refine qT11 7 (some 75) rfl rfl HT_.out HW_.out hHeld ?_
                   refine qU 8 (some 76) rfl rfl HT_.out ?_
                   refine qU 9 (some 77) rfl rfl HT_.out ?_
                   refine qT11 10 (some 78) rfl rfl HT_.out HW_.out hHeld ?_
                   refine qT11 12 (some 80) rfl rfl HT_.out HW_.out hHeld ?_
                   refine one_ (i := 13) (N := some 81) #[T,T,T,T,T,T,T,T,T,T,T,T,T,T,F,F,F,F,F,F,F,F,F,F,F,F] rfl rfl (one_of HT_.out (by kernel_rfl)) (by decide) (fun K hK => ?_)
                   refine goes_ Tryd.func39 (by kernel_rfl) rfl #[.slice (some ad138) l0.length c0, .agg #[.int .i64 ((rd_T48 l1 (ji35)).f0), .int .i64 ((rd_T48 l1 (ji35)).f1), .int .i64 ((rd_T48 l1 (ji35)).f2)]] (by rfl) rfl rfl (by (try simp only [List.map_toArray, List.map_cons, List.map_nil]); first | done | (simp only [hji35]; rfl) | rfl | (simp only [List.length_drop, List.length_take]; rfl)) ?_
                   with_reducible refine (impl_ends.calls _ _ l0 ((rd_T48 l1 (ji35)).f0) ((rd_T48 l1 (ji35)).f1) ((rd_T48 l1 (ji35)).f2) t140 _ ?side1 ?side2 A42.out).mono ?_
                   (case side1 => exact nD HR0.out HB.out)
                   (case side2 => exact HC0.out)
                   rintro e w52 ⟨rfl, hb⟩
                   refine ⟨_, rfl, ?_⟩
                   have n_ := aA (nBB BK133.out hb) <| aA (nBB BK137.out hb) <| aM (below_step (nH2 HB.out GE133.out GE137.out) hb); clear BK133 BK137 HB; obtain ⟨BK133, BK137, HB⟩ := n_; (try clear hb); (try clear hb2); (try clear hk); (try clear hi)
                   refine hK.out _ _ ⟨(blk_cell BK133.out 0).trans rfl, (blk_cell BK133.out 1).trans rfl, (blk_cell BK133.out 2).trans rfl, (blk_cell BK137.out 0).trans rfl, (blk_cell BK137.out 1).trans rfl, (blk_cell BK137.out 2).trans rfl, (nC HB.out hw138_0 :), (nC HB.out hw138_1 :), (nC HB.out hw139_0 :), (nC HB.out hw139_1 :), (nC HB.out hw139_2 :)⟩ (fun hHeld => ?_)
                   clear hK K
                   refine norm_ (a' := ?_) ?_ ?_
                   rotate_left
                   · show Act.put _ (some 81) _ = _
                     simp only [Act.put, List.setIfInBounds_toArray, List.set_cons_zero, List.set_cons_succ, i64_w, i32_w]
                     rfl
                   refine qU 14 (some 82) rfl rfl HT_.out ?_
                   refine qU 15 (some 83) rfl rfl HT_.out ?_
                   refine qU 16 (some 84) rfl rfl HT_.out ?_
                   refine qU 19 (some 87) rfl rfl HT_.out ?_
                   refine qU 22 (some 90) rfl rfl HT_.out ?_
                   refine qT11 17 (some 85) rfl rfl HT_.out HW_.out hHeld ?_
                   refine qT11 20 (some 88) rfl rfl HT_.out HW_.out hHeld ?_
                   refine one_ (i := 18) (N := some 86) #[T,T,T,T,T,T,T,T,T,T,T,T,T,T,T,T,T,T,T,T,T,F,T,F,F,F] rfl rfl (one_of HT_.out (by kernel_rfl)) (by decide) (fun K hK => ?_)
                   refine goes_ Tryd.func26 (by kernel_rfl) rfl #[.slice (some ad138) l0.length c0, .agg #[.int .i64 ((rd_T48 l1 x25_2).f0), .int .i64 ((rd_T48 l1 x25_2).f1), .int .i64 ((rd_T48 l1 x25_2).f2)]] (by rfl) rfl rfl nM ?_
                   with_reducible refine (impl_leaves.calls _ _ l0 ((rd_T48 l1 x25_2).f0) ((rd_T48 l1 x25_2).f1) ((rd_T48 l1 x25_2).f2) t141 _ ?side1 ?side2 A44.out).mono ?_
                   (case side1 => exact nD HR0.out HB.out)
                   (case side2 => exact HC0.out)
                   rintro e w53 ⟨rfl, hb⟩
                   refine ⟨_, rfl, ?_⟩
                   have n_ := aA (nBB BK133.out hb) <| aA (nBB BK137.out hb) <| aM (below_step (nH2 HB.out GE133.out GE137.out) hb); clear BK133 BK137 HB; obtain ⟨BK133, BK137, HB⟩ := n_; (try clear hb); (try clear hb2); (try clear hk); (try clear hi)
                   refine hK.out _ _ ⟨(blk_cell BK133.out 0).trans rfl, (blk_cell BK133.out 1).trans rfl, (blk_cell BK133.out 2).trans rfl, (blk_cell BK137.out 0).trans rfl, (blk_cell BK137.out 1).trans rfl, (blk_cell BK137.out 2).trans rfl, (nC HB.out hw138_0 :), (nC HB.out hw138_1 :), (nC HB.out hw139_0 :), (nC HB.out hw139_1 :), (nC HB.out hw139_2 :)⟩ (fun hHeld => ?_)
                   clear hK K
                   refine norm_ (a' := ?_) ?_ ?_
                   rotate_left
                   · show Act.put _ (some 86) _ = _
                     simp only [Act.put, List.setIfInBounds_toArray, List.set_cons_zero, List.set_cons_succ, i64_w, i32_w]
                     rfl
                   refine one_ (i := 21) (N := some 89) #[T,T,T,T,T,T,T,T,T,T,T,T,T,T,T,T,T,T,T,T,T,T,T,F,F,F] rfl rfl (one_of HT_.out (by kernel_rfl)) (by decide) (fun K hK => ?_)
                   refine goes_ Tryd.func27 (by kernel_rfl) rfl #[.slice (some ad138) l0.length c0, .agg #[.int .i64 ((rd_T48 l1 (ji35)).f0), .int .i64 ((rd_T48 l1 (ji35)).f1), .int .i64 ((rd_T48 l1 (ji35)).f2)]] (by rfl) rfl rfl (by (try simp only [List.map_toArray, List.map_cons, List.map_nil]); first | done | (simp only [hji35]; rfl) | rfl | (simp only [List.length_drop, List.length_take]; rfl)) ?_
                   with_reducible refine (impl_arrives.calls _ _ l0 ((rd_T48 l1 (ji35)).f0) ((rd_T48 l1 (ji35)).f1) ((rd_T48 l1 (ji35)).f2) t142 _ ?side1 ?side2 A45.out).mono ?_
                   (case side1 => exact nD HR0.out HB.out)
                   (case side2 => exact HC0.out)
                   rintro e w54 ⟨rfl, hb⟩
                   refine ⟨_, rfl, ?_⟩
                   have n_ := aA (nBB BK133.out hb) <| aA (nBB BK137.out hb) <| aM (below_step (nH2 HB.out GE133.out GE137.out) hb); clear BK133 BK137 HB; obtain ⟨BK133, BK137, HB⟩ := n_; (try clear hb); (try clear hb2); (try clear hk); (try clear hi)
                   refine hK.out _ _ ⟨(blk_cell BK133.out 0).trans rfl, (blk_cell BK133.out 1).trans rfl, (blk_cell BK133.out 2).trans rfl, (blk_cell BK137.out 0).trans rfl, (blk_cell BK137.out 1).trans rfl, (blk_cell BK137.out 2).trans rfl, (nC HB.out hw138_0 :), (nC HB.out hw138_1 :), (nC HB.out hw139_0 :), (nC HB.out hw139_1 :), (nC HB.out hw139_2 :)⟩ (fun hHeld => ?_)
                   clear hK K
                   refine norm_ (a' := ?_) ?_ ?_
                   rotate_left
                   · show Act.put _ (some 89) _ = _
                     simp only [Act.put, List.setIfInBounds_toArray, List.set_cons_zero, List.set_cons_succ, i64_w, i32_w]
                     rfl
                   refine qU 23 (some 91) rfl rfl HT_.out ?_
                   refine qU 24 (some 92) rfl rfl HT_.out ?_
                   refine qU 25 (some 93) rfl rfl HT_.out ?_
                   refine done_ (done_of HT_.out (by kernel_rfl)) ?_
                   try go_wp2
                   go_ret
                   exact ⟨by first | rfl | (simp [errW_none, errW_some] <;> rfl) | (simp only [← hji35]; first | rfl | (simp [errW_none, errW_some] <;> rfl)) | (simp [*, errW_none, errW_some] <;> first | rfl | (simp [wrap64]; done)), nH2 HB.out GE133.out GE137.out⟩
                 · rw [if_neg c46] at H
                   have c46b0 : decide (t141 < (wrap64 (t142 + a2))) = false := decide_eq_false c46
                   clear c46
                   have H' := aM H
                   clear H
                   have p136 : 0 ≤ ((ji35) : Int) := of_decide_eq_true nQ
                   have q136 : (ji35) < (l1.length : Int) := of_decide_eq_true nQ
                   obtain ⟨ad136, e136, hx136_0, hx136_1, hx136_2⟩ := at_T48 HR1.out (ji35) p136 q136
                   obtain rfl : ad132 = ad136 := (by injection e136)
                   replace hx136_0 := (HB.out.cell (World.block_lt_of_cell? w _ hx136_0)).trans hx136_0
                   replace hx136_1 := (HB.out.cell (World.block_lt_of_cell? w _ hx136_1)).trans hx136_1
                   replace hx136_2 := (HB.out.cell (World.block_lt_of_cell? w _ hx136_2)).trans hx136_2
                   replace p136 := eq_true p136; replace q136 := eq_true q136
                   try go_wp2_with (first | ((with_reducible refine gate_dst (N := 9) rfl ?_); (try (refine gate_guard (by rfl) ?_; dsimp only)); refine box_event ?hg (N := 9) ?hd (cs := #[.int .i64 0, .int .i64 0, .int .i64 0]) (t := 48) ?hr ?_; (case hd => rfl); (case hg => rfl); (case hr => first | (go_simp; done) | (go_simp; rfl)); intro gb137 hg w55 hbox hb; have n_ := aA (nBB BK133.out hb) <| aA (below_step (nH1 HB.out GE133.out) hb) <| aA (hbox) <| aA (bS hg (nH1 HB.out GE133.out)) <| aA (bS hg (nH1 HB.out GE133.out)) <| aA (nBL BK133.out hg) <| aM (by rw [hg]; exact Nat.ne_of_gt (blk_lt (g := gb133) (o := .cells #[.int .i64 ((rd_T48 l1 x25_2).f0), .int .i64 ((rd_T48 l1 x25_2).f1), .int .i64 ((rd_T48 l1 x25_2).f2)] 48 (0, 0)) (nB BK133.out)) : gb137 ≠ gb133); clear BK133 HB; obtain ⟨BK133, HB, BK137, GW137, GE137, NB133_137, NB137_133⟩ := n_; clear hb hbox hg; have hnb56 := NB137_133.out; have hnc56 := NB133_137.out; obtain ⟨hcz57_0, hcz57_1, hcz57_2, hfz57_0, hfz57_1, hfz57_2⟩ := nK3 BK137.out))
                   have n0_ : Aside0 ((((w55.setCell ⟨gb137, 0, none⟩ (.int .i64 ((rd_T48 l1 (ji35)).f0))).setCell ⟨gb137, 1, none⟩ (.int .i64 ((rd_T48 l1 (ji35)).f1))).setCell ⟨gb137, 2, none⟩ (.int .i64 ((rd_T48 l1 (ji35)).f2))).heap[gb133]? = some (.cells #[.int .i64 ((rd_T48 l1 x25_2).f0), .int .i64 ((rd_T48 l1 x25_2).f1), .int .i64 ((rd_T48 l1 x25_2).f2)] 48 (0, 0))) := ⟨by refine nE ?_; refine blk_far ?_ NB133_137.out _; refine nE ?_; refine blk_far ?_ NB133_137.out _; refine nE ?_; refine blk_far ?_ NB133_137.out _; exact nB BK133.out⟩
                   have n1_ : Aside0 ((((w55.setCell ⟨gb137, 0, none⟩ (.int .i64 ((rd_T48 l1 (ji35)).f0))).setCell ⟨gb137, 1, none⟩ (.int .i64 ((rd_T48 l1 (ji35)).f1))).setCell ⟨gb137, 2, none⟩ (.int .i64 ((rd_T48 l1 (ji35)).f2))).heap[gb137]? = some (.cells #[.int .i64 ((rd_T48 l1 (ji35)).f0), .int .i64 ((rd_T48 l1 (ji35)).f1), .int .i64 ((rd_T48 l1 (ji35)).f2)] 48 (0, 0))) := ⟨by refine nE ?_; refine blk_put (cs := #[.int .i64 ((rd_T48 l1 (ji35)).f0), .int .i64 ((rd_T48 l1 (ji35)).f1), .int .i64 0]) ?_ 2 _ rfl; refine nE ?_; refine blk_put (cs := #[.int .i64 ((rd_T48 l1 (ji35)).f0), .int .i64 0, .int .i64 0]) ?_ 1 _ rfl; refine nE ?_; refine blk_put (cs := #[.int .i64 0, .int .i64 0, .int .i64 0]) ?_ 0 _ rfl; exact nB BK137.out⟩
                   have n2_ : Aside0 (Below w.heap.size w (((w55.setCell ⟨gb137, 0, none⟩ (.int .i64 ((rd_T48 l1 (ji35)).f0))).setCell ⟨gb137, 1, none⟩ (.int .i64 ((rd_T48 l1 (ji35)).f1))).setCell ⟨gb137, 2, none⟩ (.int .i64 ((rd_T48 l1 (ji35)).f2)))) := ⟨nH2 HB.out GE133.out GE137.out⟩
                   (try clear BK133); (try clear BK137); (try clear HB)
                   generalize (((w55.setCell ⟨gb137, 0, none⟩ (.int .i64 ((rd_T48 l1 (ji35)).f0))).setCell ⟨gb137, 1, none⟩ (.int .i64 ((rd_T48 l1 (ji35)).f1))).setCell ⟨gb137, 2, none⟩ (.int .i64 ((rd_T48 l1 (ji35)).f2))) = w58 at n0_ n1_ n2_ ⊢
                   have BK133 := n0_; have BK137 := n1_; have HB := n2_; clear n0_ n1_ n2_
                   have n_ := aA (blk_drew BK133.out) <| aA (blk_drew BK137.out) <| aM (below_drew1 HB.out); clear BK133 BK137 HB; obtain ⟨BK133, BK137, HB⟩ := n_
                   have p138 : 0 ≤ (((rd_T48 l1 x25_2).f0) : Int) := of_decide_eq_true nQ
                   have q138 : ((rd_T48 l1 x25_2).f0) < (l0.length : Int) := of_decide_eq_true nQ
                   obtain ⟨ad138, A138_1, c138_1, e138, hx138_0, hx138_1, hl138_1, hi138_1⟩ := at_T46 HR0.out ((rd_T48 l1 x25_2).f0) p138 q138
                   have hw138_1 := hx138_1; have hw138_0 := hx138_0; cases e138
                   replace hx138_0 := (HB.out.cell (World.block_lt_of_cell? w _ hx138_0)).trans hx138_0
                   replace hx138_1 := (HB.out.cell (World.block_lt_of_cell? w _ hx138_1)).trans hx138_1
                   have HR138_1 := aM hi138_1
                   have HC138_1 := aM hl138_1
                   clear hi138_1 hl138_1; replace p138 := eq_true p138; replace q138 := eq_true q138
                   have p139 : 0 ≤ (((rd_T48 l1 x25_2).f1) : Int) := of_decide_eq_true nQ
                   have q139 : ((rd_T48 l1 x25_2).f1) < (((rd_T46 l0 ((rd_T48 l1 x25_2).f0)).f1).length : Int) := of_decide_eq_true nQ
                   obtain ⟨ad139, e139, hx139_0, hx139_1, hx139_2⟩ := at_T43 HR138_1.out ((rd_T48 l1 x25_2).f1) p139 q139
                   have hw139_2 := hx139_2; have hw139_1 := hx139_1; have hw139_0 := hx139_0; cases e139
                   replace hx139_0 := (HB.out.cell (World.block_lt_of_cell? w _ hx139_0)).trans hx139_0
                   replace hx139_1 := (HB.out.cell (World.block_lt_of_cell? w _ hx139_1)).trans hx139_1
                   replace hx139_2 := (HB.out.cell (World.block_lt_of_cell? w _ hx139_2)).trans hx139_2
                   replace p139 := eq_true p139; replace q139 := eq_true q139
                   refine start_ (n := 26) (S := fun w' => w'.cell? ⟨gb133, 0, none⟩ = some (.int .i64 ((rd_T48 l1 x25_2).f0)) ∧ w'.cell? ⟨gb133, 1, none⟩ = some (.int .i64 ((rd_T48 l1 x25_2).f1)) ∧ w'.cell? ⟨gb133, 2, none⟩ = some (.int .i64 ((rd_T48 l1 x25_2).f2)) ∧ w'.cell? ⟨gb137, 0, none⟩ = some (.int .i64 ((rd_T48 l1 (ji35)).f0)) ∧ w'.cell? ⟨gb137, 1, none⟩ = some (.int .i64 ((rd_T48 l1 (ji35)).f1)) ∧ w'.cell? ⟨gb137, 2, none⟩ = some (.int .i64 ((rd_T48 l1 (ji35)).f2)) ∧ w'.cell? (ad138.add ((((rd_T48 l1 x25_2).f0)).toNat * 2)) = some (.string ((rd_T46 l0 ((rd_T48 l1 x25_2).f0)).f0)) ∧ w'.cell? ⟨(ad138.add ((((rd_T48 l1 x25_2).f0)).toNat * 2)).block, (ad138.add ((((rd_T48 l1 x25_2).f0)).toNat * 2)).off + 1, none⟩ = some (.slice (some ad139) ((rd_T46 l0 ((rd_T48 l1 x25_2).f0)).f1).length c138_1) ∧ w'.cell? (ad139.add ((((rd_T48 l1 x25_2).f1)).toNat * 3)) = some (.int .i64 ((rd_T43 ((rd_T46 l0 ((rd_T48 l1 x25_2).f0)).f1) ((rd_T48 l1 x25_2).f1)).f0)) ∧ w'.cell? ⟨(ad139.add ((((rd_T48 l1 x25_2).f1)).toNat * 3)).block, (ad139.add ((((rd_T48 l1 x25_2).f1)).toNat * 3)).off + 1, none⟩ = some (.int .i64 ((rd_T43 ((rd_T46 l0 ((rd_T48 l1 x25_2).f0)).f1) ((rd_T48 l1 x25_2).f1)).f1)) ∧ w'.cell? ⟨(ad139.add ((((rd_T48 l1 x25_2).f1)).toNat * 3)).block, (ad139.add ((((rd_T48 l1 x25_2).f1)).toNat * 3)).off + 2, none⟩ = some (.int .i64 ((rd_T43 ((rd_T46 l0 ((rd_T48 l1 x25_2).f0)).f1) ((rd_T48 l1 x25_2).f1)).f2))) (ds := []) #[F,F,F,F,F,F,F,F,F,F,F,F,F,F,F,F,F,F,F,F,F,F,F,F,F,F] (by kernel_rfl) rfl rfl ⟨(blk_cell BK133.out 0).trans rfl, (blk_cell BK133.out 1).trans rfl, (blk_cell BK133.out 2).trans rfl, (blk_cell BK137.out 0).trans rfl, (blk_cell BK137.out 1).trans rfl, (blk_cell BK137.out 2).trans rfl, (nC HB.out hw138_0 :), (nC HB.out hw138_1 :), (nC HB.out hw139_0 :), (nC HB.out hw139_1 :), (nC HB.out hw139_2 :)⟩ (fun hHeld => ?_); refine with_tabW impl_LegsOk.tab10 impl_LegsOk.bits10 (fun HT_ HW_ => ?_)
                   generalize w58.drew = w59 at BK133 BK137 HB HR138_1 hx138_0 hx138_1 hx139_0 hx139_1 hx139_2 hHeld ⊢
                   refine qU 0 (some 68) rfl rfl HT_.out ?_
                   refine qU 1 (some 69) rfl rfl HT_.out ?_
                   refine qU 6 (some 74) rfl rfl HT_.out ?_
                   refine qU 11 (some 79) rfl rfl HT_.out ?_
                   refine qT11 2 (some 70) rfl rfl HT_.out HW_.out hHeld ?_
                   refine qU 3 (some 71) rfl rfl HT_.out ?_
                   refine qU 4 (some 72) rfl rfl HT_.out ?_
                   refine qT11 5 (some 73) rfl rfl HT_.out HW_.out hHeld ?_
                   refine qT11 7 (some 75) rfl rfl HT_.out HW_.out hHeld ?_
                   refine qU 8 (some 76) rfl rfl HT_.out ?_
                   refine qU 9 (some 77) rfl rfl HT_.out ?_
                   refine qT11 10 (some 78) rfl rfl HT_.out HW_.out hHeld ?_
                   refine qT11 12 (some 80) rfl rfl HT_.out HW_.out hHeld ?_
                   refine one_ (i := 13) (N := some 81) #[T,T,T,T,T,T,T,T,T,T,T,T,T,T,F,F,F,F,F,F,F,F,F,F,F,F] rfl rfl (one_of HT_.out (by kernel_rfl)) (by decide) (fun K hK => ?_)
                   refine goes_ Tryd.func39 (by kernel_rfl) rfl #[.slice (some ad138) l0.length c0, .agg #[.int .i64 ((rd_T48 l1 (ji35)).f0), .int .i64 ((rd_T48 l1 (ji35)).f1), .int .i64 ((rd_T48 l1 (ji35)).f2)]] (by rfl) rfl rfl (by (try simp only [List.map_toArray, List.map_cons, List.map_nil]); first | done | (simp only [hji35]; rfl) | rfl | (simp only [List.length_drop, List.length_take]; rfl)) ?_
                   with_reducible refine (impl_ends.calls _ _ l0 ((rd_T48 l1 (ji35)).f0) ((rd_T48 l1 (ji35)).f1) ((rd_T48 l1 (ji35)).f2) t140 _ ?side1 ?side2 A42.out).mono ?_
                   (case side1 => exact nD HR0.out HB.out)
                   (case side2 => exact HC0.out)
                   rintro e w60 ⟨rfl, hb⟩
                   refine ⟨_, rfl, ?_⟩
                   have n_ := aA (nBB BK133.out hb) <| aA (nBB BK137.out hb) <| aM (below_step (nH2 HB.out GE133.out GE137.out) hb); clear BK133 BK137 HB; obtain ⟨BK133, BK137, HB⟩ := n_; (try clear hb); (try clear hb2); (try clear hk); (try clear hi)
                   refine hK.out _ _ ⟨(blk_cell BK133.out 0).trans rfl, (blk_cell BK133.out 1).trans rfl, (blk_cell BK133.out 2).trans rfl, (blk_cell BK137.out 0).trans rfl, (blk_cell BK137.out 1).trans rfl, (blk_cell BK137.out 2).trans rfl, (nC HB.out hw138_0 :), (nC HB.out hw138_1 :), (nC HB.out hw139_0 :), (nC HB.out hw139_1 :), (nC HB.out hw139_2 :)⟩ (fun hHeld => ?_)
                   clear hK K
                   refine norm_ (a' := ?_) ?_ ?_
                   rotate_left
                   · show Act.put _ (some 81) _ = _
                     simp only [Act.put, List.setIfInBounds_toArray, List.set_cons_zero, List.set_cons_succ, i64_w, i32_w]
                     rfl
                   refine qU 14 (some 82) rfl rfl HT_.out ?_
                   refine qU 15 (some 83) rfl rfl HT_.out ?_
                   refine qU 16 (some 84) rfl rfl HT_.out ?_
                   refine qU 19 (some 87) rfl rfl HT_.out ?_
                   refine qU 22 (some 90) rfl rfl HT_.out ?_
                   refine qT11 17 (some 85) rfl rfl HT_.out HW_.out hHeld ?_
                   refine qT11 20 (some 88) rfl rfl HT_.out HW_.out hHeld ?_
                   refine one_ (i := 18) (N := some 86) #[T,T,T,T,T,T,T,T,T,T,T,T,T,T,T,T,T,T,T,T,T,F,T,F,F,F] rfl rfl (one_of HT_.out (by kernel_rfl)) (by decide) (fun K hK => ?_)
                   refine goes_ Tryd.func26 (by kernel_rfl) rfl #[.slice (some ad138) l0.length c0, .agg #[.int .i64 ((rd_T48 l1 x25_2).f0), .int .i64 ((rd_T48 l1 x25_2).f1), .int .i64 ((rd_T48 l1 x25_2).f2)]] (by rfl) rfl rfl nM ?_
                   with_reducible refine (impl_leaves.calls _ _ l0 ((rd_T48 l1 x25_2).f0) ((rd_T48 l1 x25_2).f1) ((rd_T48 l1 x25_2).f2) t141 _ ?side1 ?side2 A44.out).mono ?_
                   (case side1 => exact nD HR0.out HB.out)
                   (case side2 => exact HC0.out)
                   rintro e w61 ⟨rfl, hb⟩
                   refine ⟨_, rfl, ?_⟩
                   have n_ := aA (nBB BK133.out hb) <| aA (nBB BK137.out hb) <| aM (below_step (nH2 HB.out GE133.out GE137.out) hb); clear BK133 BK137 HB; obtain ⟨BK133, BK137, HB⟩ := n_; (try clear hb); (try clear hb2); (try clear hk); (try clear hi)
                   refine hK.out _ _ ⟨(blk_cell BK133.out 0).trans rfl, (blk_cell BK133.out 1).trans rfl, (blk_cell BK133.out 2).trans rfl, (blk_cell BK137.out 0).trans rfl, (blk_cell BK137.out 1).trans rfl, (blk_cell BK137.out 2).trans rfl, (nC HB.out hw138_0 :), (nC HB.out hw138_1 :), (nC HB.out hw139_0 :), (nC HB.out hw139_1 :), (nC HB.out hw139_2 :)⟩ (fun hHeld => ?_)
                   clear hK K
                   refine norm_ (a' := ?_) ?_ ?_
                   rotate_left
                   · show Act.put _ (some 86) _ = _
                     simp only [Act.put, List.setIfInBounds_toArray, List.set_cons_zero, List.set_cons_succ, i64_w, i32_w]
                     rfl
                   refine one_ (i := 21) (N := some 89) #[T,T,T,T,T,T,T,T,T,T,T,T,T,T,T,T,T,T,T,T,T,T,T,F,F,F] rfl rfl (one_of HT_.out (by kernel_rfl)) (by decide) (fun K hK => ?_)
                   refine goes_ Tryd.func27 (by kernel_rfl) rfl #[.slice (some ad138) l0.length c0, .agg #[.int .i64 ((rd_T48 l1 (ji35)).f0), .int .i64 ((rd_T48 l1 (ji35)).f1), .int .i64 ((rd_T48 l1 (ji35)).f2)]] (by rfl) rfl rfl (by (try simp only [List.map_toArray, List.map_cons, List.map_nil]); first | done | (simp only [hji35]; rfl) | rfl | (simp only [List.length_drop, List.length_take]; rfl)) ?_
                   with_reducible refine (impl_arrives.calls _ _ l0 ((rd_T48 l1 (ji35)).f0) ((rd_T48 l1 (ji35)).f1) ((rd_T48 l1 (ji35)).f2) t142 _ ?side1 ?side2 A45.out).mono ?_
                   (case side1 => exact nD HR0.out HB.out)
                   (case side2 => exact HC0.out)
                   rintro e w62 ⟨rfl, hb⟩
                   refine ⟨_, rfl, ?_⟩
                   have n_ := aA (nBB BK133.out hb) <| aA (nBB BK137.out hb) <| aM (below_step (nH2 HB.out GE133.out GE137.out) hb); clear BK133 BK137 HB; obtain ⟨BK133, BK137, HB⟩ := n_; (try clear hb); (try clear hb2); (try clear hk); (try clear hi)
                   refine hK.out _ _ ⟨(blk_cell BK133.out 0).trans rfl, (blk_cell BK133.out 1).trans rfl, (blk_cell BK133.out 2).trans rfl, (blk_cell BK137.out 0).trans rfl, (blk_cell BK137.out 1).trans rfl, (blk_cell BK137.out 2).trans rfl, (nC HB.out hw138_0 :), (nC HB.out hw138_1 :), (nC HB.out hw139_0 :), (nC HB.out hw139_1 :), (nC HB.out hw139_2 :)⟩ (fun hHeld => ?_)
                   clear hK K
                   refine norm_ (a' := ?_) ?_ ?_
                   rotate_left
                   · show Act.put _ (some 89) _ = _
                     simp only [Act.put, List.setIfInBounds_toArray, List.set_cons_zero, List.set_cons_succ, i64_w, i32_w]
                     rfl
                   refine qU 23 (some 91) rfl rfl HT_.out ?_
                   refine qU 24 (some 92) rfl rfl HT_.out ?_
                   refine qU 25 (some 93) rfl rfl HT_.out ?_
                   refine done_ (done_of HT_.out (by kernel_rfl)) ?_
                   try go_wp2
                   go_roundg kj15
                   case measure => have := HJ3.out; have := HK2.out; have := HJ15.out; omega
                   case rel => exact ⟨(wrap64 (x25_2 + 1)), nS, H', ⟨by have := HJ3.out; have := HK2.out; have := HJ15.out; omega⟩, ⟨nH2 HB.out GE133.out GE137.out⟩⟩
               · rw [if_neg c43] at H
                 have c43b0 : (((rd_T43 ((rd_T46 l0 ((rd_T48 l1 x25_2).f0)).f1) ((rd_T48 l1 x25_2).f1)).f0) == t140) = false := beq_eq_false_iff_ne.mpr c43
                 have c43b1 : (((rd_T43 ((rd_T46 l0 ((rd_T48 l1 x25_2).f0)).f1) ((rd_T48 l1 x25_2).f1)).f0) != t140) = true := bne_iff_ne.mpr c43
                 obtain rfl := Option.some.inj H
                 have p136 : 0 ≤ ((ji35) : Int) := of_decide_eq_true nQ
                 have q136 : (ji35) < (l1.length : Int) := of_decide_eq_true nQ
                 obtain ⟨ad136, e136, hx136_0, hx136_1, hx136_2⟩ := at_T48 HR1.out (ji35) p136 q136
                 obtain rfl : ad132 = ad136 := (by injection e136)
                 replace hx136_0 := (HB.out.cell (World.block_lt_of_cell? w _ hx136_0)).trans hx136_0
                 replace hx136_1 := (HB.out.cell (World.block_lt_of_cell? w _ hx136_1)).trans hx136_1
                 replace hx136_2 := (HB.out.cell (World.block_lt_of_cell? w _ hx136_2)).trans hx136_2
                 replace p136 := eq_true p136; replace q136 := eq_true q136
                 try go_wp2_with (first | ((with_reducible refine gate_dst (N := 9) rfl ?_); (try (refine gate_guard (by rfl) ?_; dsimp only)); refine box_event ?hg (N := 9) ?hd (cs := #[.int .i64 0, .int .i64 0, .int .i64 0]) (t := 48) ?hr ?_; (case hd => rfl); (case hg => rfl); (case hr => first | (go_simp; done) | (go_simp; rfl)); intro gb137 hg w63 hbox hb; have n_ := aA (nBB BK133.out hb) <| aA (below_step (nH1 HB.out GE133.out) hb) <| aA (hbox) <| aA (bS hg (nH1 HB.out GE133.out)) <| aA (bS hg (nH1 HB.out GE133.out)) <| aA (nBL BK133.out hg) <| aM (by rw [hg]; exact Nat.ne_of_gt (blk_lt (g := gb133) (o := .cells #[.int .i64 ((rd_T48 l1 x25_2).f0), .int .i64 ((rd_T48 l1 x25_2).f1), .int .i64 ((rd_T48 l1 x25_2).f2)] 48 (0, 0)) (nB BK133.out)) : gb137 ≠ gb133); clear BK133 HB; obtain ⟨BK133, HB, BK137, GW137, GE137, NB133_137, NB137_133⟩ := n_; clear hb hbox hg; have hnb64 := NB137_133.out; have hnc64 := NB133_137.out; obtain ⟨hcz65_0, hcz65_1, hcz65_2, hfz65_0, hfz65_1, hfz65_2⟩ := nK3 BK137.out))
                 have n0_ : Aside0 ((((w63.setCell ⟨gb137, 0, none⟩ (.int .i64 ((rd_T48 l1 (ji35)).f0))).setCell ⟨gb137, 1, none⟩ (.int .i64 ((rd_T48 l1 (ji35)).f1))).setCell ⟨gb137, 2, none⟩ (.int .i64 ((rd_T48 l1 (ji35)).f2))).heap[gb133]? = some (.cells #[.int .i64 ((rd_T48 l1 x25_2).f0), .int .i64 ((rd_T48 l1 x25_2).f1), .int .i64 ((rd_T48 l1 x25_2).f2)] 48 (0, 0))) := ⟨by refine nE ?_; refine blk_far ?_ NB133_137.out _; refine nE ?_; refine blk_far ?_ NB133_137.out _; refine nE ?_; refine blk_far ?_ NB133_137.out _; exact nB BK133.out⟩
                 have n1_ : Aside0 ((((w63.setCell ⟨gb137, 0, none⟩ (.int .i64 ((rd_T48 l1 (ji35)).f0))).setCell ⟨gb137, 1, none⟩ (.int .i64 ((rd_T48 l1 (ji35)).f1))).setCell ⟨gb137, 2, none⟩ (.int .i64 ((rd_T48 l1 (ji35)).f2))).heap[gb137]? = some (.cells #[.int .i64 ((rd_T48 l1 (ji35)).f0), .int .i64 ((rd_T48 l1 (ji35)).f1), .int .i64 ((rd_T48 l1 (ji35)).f2)] 48 (0, 0))) := ⟨by refine nE ?_; refine blk_put (cs := #[.int .i64 ((rd_T48 l1 (ji35)).f0), .int .i64 ((rd_T48 l1 (ji35)).f1), .int .i64 0]) ?_ 2 _ rfl; refine nE ?_; refine blk_put (cs := #[.int .i64 ((rd_T48 l1 (ji35)).f0), .int .i64 0, .int .i64 0]) ?_ 1 _ rfl; refine nE ?_; refine blk_put (cs := #[.int .i64 0, .int .i64 0, .int .i64 0]) ?_ 0 _ rfl; exact nB BK137.out⟩
                 have n2_ : Aside0 (Below w.heap.size w (((w63.setCell ⟨gb137, 0, none⟩ (.int .i64 ((rd_T48 l1 (ji35)).f0))).setCell ⟨gb137, 1, none⟩ (.int .i64 ((rd_T48 l1 (ji35)).f1))).setCell ⟨gb137, 2, none⟩ (.int .i64 ((rd_T48 l1 (ji35)).f2)))) := ⟨nH2 HB.out GE133.out GE137.out⟩
                 (try clear BK133); (try clear BK137); (try clear HB)
                 generalize (((w63.setCell ⟨gb137, 0, none⟩ (.int .i64 ((rd_T48 l1 (ji35)).f0))).setCell ⟨gb137, 1, none⟩ (.int .i64 ((rd_T48 l1 (ji35)).f1))).setCell ⟨gb137, 2, none⟩ (.int .i64 ((rd_T48 l1 (ji35)).f2))) = w66 at n0_ n1_ n2_ ⊢
                 have BK133 := n0_; have BK137 := n1_; have HB := n2_; clear n0_ n1_ n2_
                 have n_ := aA (blk_drew BK133.out) <| aA (blk_drew BK137.out) <| aM (below_drew1 HB.out); clear BK133 BK137 HB; obtain ⟨BK133, BK137, HB⟩ := n_
                 have p138 : 0 ≤ (((rd_T48 l1 x25_2).f0) : Int) := of_decide_eq_true nQ
                 have q138 : ((rd_T48 l1 x25_2).f0) < (l0.length : Int) := of_decide_eq_true nQ
                 obtain ⟨ad138, A138_1, c138_1, e138, hx138_0, hx138_1, hl138_1, hi138_1⟩ := at_T46 HR0.out ((rd_T48 l1 x25_2).f0) p138 q138
                 have hw138_1 := hx138_1; have hw138_0 := hx138_0; cases e138
                 replace hx138_0 := (HB.out.cell (World.block_lt_of_cell? w _ hx138_0)).trans hx138_0
                 replace hx138_1 := (HB.out.cell (World.block_lt_of_cell? w _ hx138_1)).trans hx138_1
                 have HR138_1 := aM hi138_1
                 have HC138_1 := aM hl138_1
                 clear hi138_1 hl138_1; replace p138 := eq_true p138; replace q138 := eq_true q138
                 have p139 : 0 ≤ (((rd_T48 l1 x25_2).f1) : Int) := of_decide_eq_true nQ
                 have q139 : ((rd_T48 l1 x25_2).f1) < (((rd_T46 l0 ((rd_T48 l1 x25_2).f0)).f1).length : Int) := of_decide_eq_true nQ
                 obtain ⟨ad139, e139, hx139_0, hx139_1, hx139_2⟩ := at_T43 HR138_1.out ((rd_T48 l1 x25_2).f1) p139 q139
                 have hw139_2 := hx139_2; have hw139_1 := hx139_1; have hw139_0 := hx139_0; cases e139
                 replace hx139_0 := (HB.out.cell (World.block_lt_of_cell? w _ hx139_0)).trans hx139_0
                 replace hx139_1 := (HB.out.cell (World.block_lt_of_cell? w _ hx139_1)).trans hx139_1
                 replace hx139_2 := (HB.out.cell (World.block_lt_of_cell? w _ hx139_2)).trans hx139_2
                 replace p139 := eq_true p139; replace q139 := eq_true q139
                 refine start_ (n := 26) (S := fun w' => w'.cell? ⟨gb133, 0, none⟩ = some (.int .i64 ((rd_T48 l1 x25_2).f0)) ∧ w'.cell? ⟨gb133, 1, none⟩ = some (.int .i64 ((rd_T48 l1 x25_2).f1)) ∧ w'.cell? ⟨gb133, 2, none⟩ = some (.int .i64 ((rd_T48 l1 x25_2).f2)) ∧ w'.cell? ⟨gb137, 0, none⟩ = some (.int .i64 ((rd_T48 l1 (ji35)).f0)) ∧ w'.cell? ⟨gb137, 1, none⟩ = some (.int .i64 ((rd_T48 l1 (ji35)).f1)) ∧ w'.cell? ⟨gb137, 2, none⟩ = some (.int .i64 ((rd_T48 l1 (ji35)).f2)) ∧ w'.cell? (ad138.add ((((rd_T48 l1 x25_2).f0)).toNat * 2)) = some (.string ((rd_T46 l0 ((rd_T48 l1 x25_2).f0)).f0)) ∧ w'.cell? ⟨(ad138.add ((((rd_T48 l1 x25_2).f0)).toNat * 2)).block, (ad138.add ((((rd_T48 l1 x25_2).f0)).toNat * 2)).off + 1, none⟩ = some (.slice (some ad139) ((rd_T46 l0 ((rd_T48 l1 x25_2).f0)).f1).length c138_1) ∧ w'.cell? (ad139.add ((((rd_T48 l1 x25_2).f1)).toNat * 3)) = some (.int .i64 ((rd_T43 ((rd_T46 l0 ((rd_T48 l1 x25_2).f0)).f1) ((rd_T48 l1 x25_2).f1)).f0)) ∧ w'.cell? ⟨(ad139.add ((((rd_T48 l1 x25_2).f1)).toNat * 3)).block, (ad139.add ((((rd_T48 l1 x25_2).f1)).toNat * 3)).off + 1, none⟩ = some (.int .i64 ((rd_T43 ((rd_T46 l0 ((rd_T48 l1 x25_2).f0)).f1) ((rd_T48 l1 x25_2).f1)).f1)) ∧ w'.cell? ⟨(ad139.add ((((rd_T48 l1 x25_2).f1)).toNat * 3)).block, (ad139.add ((((rd_T48 l1 x25_2).f1)).toNat * 3)).off + 2, none⟩ = some (.int .i64 ((rd_T43 ((rd_T46 l0 ((rd_T48 l1 x25_2).f0)).f1) ((rd_T48 l1 x25_2).f1)).f2))) (ds := []) #[F,F,F,F,F,F,F,F,F,F,F,F,F,F,F,F,F,F,F,F,F,F,F,F,F,F] (by kernel_rfl) rfl rfl ⟨(blk_cell BK133.out 0).trans rfl, (blk_cell BK133.out 1).trans rfl, (blk_cell BK133.out 2).trans rfl, (blk_cell BK137.out 0).trans rfl, (blk_cell BK137.out 1).trans rfl, (blk_cell BK137.out 2).trans rfl, (nC HB.out hw138_0 :), (nC HB.out hw138_1 :), (nC HB.out hw139_0 :), (nC HB.out hw139_1 :), (nC HB.out hw139_2 :)⟩ (fun hHeld => ?_); refine with_tabW impl_LegsOk.tab10 impl_LegsOk.bits10 (fun HT_ HW_ => ?_)
                 generalize w66.drew = w67 at BK133 BK137 HB HR138_1 hx138_0 hx138_1 hx139_0 hx139_1 hx139_2 hHeld ⊢
                 refine qU 0 (some 68) rfl rfl HT_.out ?_
                 refine qU 1 (some 69) rfl rfl HT_.out ?_
                 refine qU 6 (some 74) rfl rfl HT_.out ?_
                 refine qU 11 (some 79) rfl rfl HT_.out ?_
                 refine qT11 2 (some 70) rfl rfl HT_.out HW_.out hHeld ?_
                 refine qU 3 (some 71) rfl rfl HT_.out ?_
                 refine qU 4 (some 72) rfl rfl HT_.out ?_
                 refine qT11 5 (some 73) rfl rfl HT_.out HW_.out hHeld ?_
                 refine qT11 7 (some 75) rfl rfl HT_.out HW_.out hHeld ?_
                 refine qU 8 (some 76) rfl rfl HT_.out ?_
                 refine qU 9 (some 77) rfl rfl HT_.out ?_
                 refine qT11 10 (some 78) rfl rfl HT_.out HW_.out hHeld ?_
                 refine qT11 12 (some 80) rfl rfl HT_.out HW_.out hHeld ?_
                 refine one_ (i := 13) (N := some 81) #[T,T,T,T,T,T,T,T,T,T,T,T,T,T,F,F,F,F,F,F,F,F,F,F,F,F] rfl rfl (one_of HT_.out (by kernel_rfl)) (by decide) (fun K hK => ?_)
                 refine goes_ Tryd.func39 (by kernel_rfl) rfl #[.slice (some ad138) l0.length c0, .agg #[.int .i64 ((rd_T48 l1 (ji35)).f0), .int .i64 ((rd_T48 l1 (ji35)).f1), .int .i64 ((rd_T48 l1 (ji35)).f2)]] (by rfl) rfl rfl (by (try simp only [List.map_toArray, List.map_cons, List.map_nil]); first | done | (simp only [hji35]; rfl) | rfl | (simp only [List.length_drop, List.length_take]; rfl)) ?_
                 with_reducible refine (impl_ends.calls _ _ l0 ((rd_T48 l1 (ji35)).f0) ((rd_T48 l1 (ji35)).f1) ((rd_T48 l1 (ji35)).f2) t140 _ ?side1 ?side2 A42.out).mono ?_
                 (case side1 => exact nD HR0.out HB.out)
                 (case side2 => exact HC0.out)
                 rintro e w68 ⟨rfl, hb⟩
                 refine ⟨_, rfl, ?_⟩
                 have n_ := aA (nBB BK133.out hb) <| aA (nBB BK137.out hb) <| aM (below_step (nH2 HB.out GE133.out GE137.out) hb); clear BK133 BK137 HB; obtain ⟨BK133, BK137, HB⟩ := n_; (try clear hb); (try clear hb2); (try clear hk); (try clear hi)
                 refine hK.out _ _ ⟨(blk_cell BK133.out 0).trans rfl, (blk_cell BK133.out 1).trans rfl, (blk_cell BK133.out 2).trans rfl, (blk_cell BK137.out 0).trans rfl, (blk_cell BK137.out 1).trans rfl, (blk_cell BK137.out 2).trans rfl, (nC HB.out hw138_0 :), (nC HB.out hw138_1 :), (nC HB.out hw139_0 :), (nC HB.out hw139_1 :), (nC HB.out hw139_2 :)⟩ (fun hHeld => ?_)
                 clear hK K
                 refine norm_ (a' := ?_) ?_ ?_
                 rotate_left
                 · show Act.put _ (some 81) _ = _
                   simp only [Act.put, List.setIfInBounds_toArray, List.set_cons_zero, List.set_cons_succ, i64_w, i32_w]
                   rfl
                 refine qU 14 (some 82) rfl rfl HT_.out ?_
                 refine qU 15 (some 83) rfl rfl HT_.out ?_
                 refine qV 16 (some 84) rfl rfl HT_.out ?_
                 refine qV 17 (some 85) rfl rfl HT_.out ?_
                 refine qV 18 (some 86) rfl rfl HT_.out ?_
                 refine qV 19 (some 87) rfl rfl HT_.out ?_
                 refine qV 20 (some 88) rfl rfl HT_.out ?_
                 refine qV 21 (some 89) rfl rfl HT_.out ?_
                 refine qV 22 (some 90) rfl rfl HT_.out ?_
                 refine qV 23 (some 91) rfl rfl HT_.out ?_
                 refine qV 24 (some 92) rfl rfl HT_.out ?_
                 refine qU 25 (some 93) rfl rfl HT_.out ?_
                 refine done_ (done_of HT_.out (by kernel_rfl)) ?_
                 try go_wp2
                 go_ret
                 exact ⟨by first | rfl | (simp [errW_none, errW_some] <;> rfl) | (simp only [← hji35]; first | rfl | (simp [errW_none, errW_some] <;> rfl)) | (simp [*, errW_none, errW_some] <;> first | rfl | (simp [wrap64]; done)), nH2 HB.out GE133.out GE137.out⟩
       · rw [if_neg c13] at H
         have c13b0 : decide (x25_2 < (l1.length : Int)) = false := decide_eq_false c13
         clear c13; obtain rfl := Option.some.inj H; go_wp2; go_ret
         exact ⟨by first | rfl | (simp [errW_none, errW_some] <;> rfl) | (simp [*, errW_none, errW_some] <;> first | rfl | (simp [wrap64]; done)), nH HB.out⟩
end Go.Proofs.YtdpjoblnjjkbfaaDoor.P

/- Contracts of functions, each with its plain Lean function. -/
import Derived.Test.YtdpjoblnjjkbfaaDoorNe
import Derived.Test.YtdpjoblnjjkbfaaDoorNc
import Derived.Test.YtdpjoblnjjkbfaaDoorPx0
import Derived.Test.YtdpjoblnjjkbfaaDoorPx27
namespace Go.Proofs.YtdpjoblnjjkbfaaDoor.P
open Go.RowKit Go.Proofs.YtdpjoblnjjkbfaaDoorW.PrintWords Go.Proofs.YtdpjoblnjjkbfaaDoorW.PrintLast Go.Proofs.YtdpjoblnjjkbfaaDoorW.PrintMore
attribute [local go_sem] max2_int min2_int max_two min_two max_three min_three max_four min_four   -- for this text's walks alone
set_option linter.unusedVariables false
set_option linter.unusedSimpArgs false
/-! ### spec_l12Reach: function 41 -/
theorem spec_l12Reach.mono_l : ∀ k, (∀ y0 y1 y2 y3 y4 y5 y6, LeO (spec_l12Reach.l0 k y0 y1 y2 y3 y4 y5 y6) (spec_l12Reach.l0 (k + 1) y0 y1 y2 y3 y4 y5 y6)) ∧ (∀ y0 y1 y2 y3 y4 y5, LeO (spec_l12Reach.l1 k y0 y1 y2 y3 y4 y5) (spec_l12Reach.l1 (k + 1) y0 y1 y2 y3 y4 y5)) ∧ (∀ y0 y1 y2 y3 y4 y5 y6 y7, LeO (spec_l12Reach.l2 k y0 y1 y2 y3 y4 y5 y6 y7) (spec_l12Reach.l2 (k + 1) y0 y1 y2 y3 y4 y5 y6 y7)) ∧ (∀ y0 y1 y2 y3 y4 y5 y6 y7 y8 y9, LeO (spec_l12Reach.l3 k y0 y1 y2 y3 y4 y5 y6 y7 y8 y9) (spec_l12Reach.l3 (k + 1) y0 y1 y2 y3 y4 y5 y6 y7 y8 y9)) ∧ (∀ y0 y1 y2 y3 y4 y5 y6 y7 y8 y9 y10 y11, LeO (spec_l12Reach.j4 k y0 y1 y2 y3 y4 y5 y6 y7 y8 y9 y10 y11) (spec_l12Reach.j4 (k + 1) y0 y1 y2 y3 y4 y5 y6 y7 y8 y9 y10 y11)) ∧ (∀ y0 y1 y2 y3 y4 y5 y6 y7 y8 y9 y10, LeO (spec_l12Reach.j5 k y0 y1 y2 y3 y4 y5 y6 y7 y8 y9 y10) (spec_l12Reach.j5 (k + 1) y0 y1 y2 y3 y4 y5 y6 y7 y8 y9 y10)) ∧ (∀ y0 y1 y2 y3 y4 y5 y6 y7 y8 y9 y10, LeO (spec_l12Reach.l4 k y0 y1 y2 y3 y4 y5 y6 y7 y8 y9 y10) (spec_l12Reach.l4 (k + 1) y0 y1 y2 y3 y4 y5 y6 y7 y8 y9 y10))
 | 0 => ⟨fun _ _ _ _ _ _ _ r h => by simp [spec_l12Reach.l0] at h, fun _ _ _ _ _ _ r h => by simp [spec_l12Reach.l1] at h, fun _ _ _ _ _ _ _ _ r h => by simp [spec_l12Reach.l2] at h, fun _ _ _ _ _ _ _ _ _ _ r h => by simp [spec_l12Reach.l3] at h, fun _ _ _ _ _ _ _ _ _ _ _ _ r h => by simp [spec_l12Reach.j4] at h, fun _ _ _ _ _ _ _ _ _ _ _ r h => by simp [spec_l12Reach.j5] at h, fun _ _ _ _ _ _ _ _ _ _ _ r h => by simp [spec_l12Reach.l4] at h⟩
 | k + 1 => by
  obtain ⟨ih0, ih1, ih2, ih3, ih4, ih5, ih6⟩ := spec_l12Reach.mono_l k
  refine ⟨?_, ?_, ?_, ?_, ?_, ?_, ?_⟩
  all_goals intros
  all_goals first | unfold spec_l12Reach.l0 | unfold spec_l12Reach.l1 | unfold spec_l12Reach.l2 | unfold spec_l12Reach.l3 | unfold spec_l12Reach.j4 | unfold spec_l12Reach.j5 | unfold spec_l12Reach.l4
  all_goals
   repeat' first
   | (with_reducible exact ih0 _ _ _ _ _ _ _)
   | (with_reducible exact ih1 _ _ _ _ _ _)
   | (with_reducible exact ih2 _ _ _ _ _ _ _ _)
   | (with_reducible exact ih3 _ _ _ _ _ _ _ _ _ _)
   | (with_reducible exact ih4 _ _ _ _ _ _ _ _ _ _ _ _)
   | (with_reducible exact ih5 _ _ _ _ _ _ _ _ _ _ _)
   | (with_reducible exact ih6 _ _ _ _ _ _ _ _ _ _ _)
   | (with_reducible exact spec_l01Copy.mono _ _)
   | (with_reducible exact LeO.refl _)
   | (with_reducible exact LeO.none _)
   | (with_reducible refine LeO.ite ?_ ?_)
   | (with_reducible refine LeO.bind ?_ (fun _ => ?_))
   | exact ih0 _ _ _ _ _ _ _
   | exact ih1 _ _ _ _ _ _
   | exact ih2 _ _ _ _ _ _ _ _
   | exact ih3 _ _ _ _ _ _ _ _ _ _
   | exact ih4 _ _ _ _ _ _ _ _ _ _ _ _
   | exact ih5 _ _ _ _ _ _ _ _ _ _ _
   | exact ih6 _ _ _ _ _ _ _ _ _ _ _
   | exact spec_l01Copy.mono _ _
   | exact LeO.none _
   | refine LeO.ite ?_ ?_
   | refine LeO.bind ?_ (fun _ => ?_)
theorem spec_l12Reach.mono : ∀ a0 a1 a2 a3 a4 k, LeO (spec_l12Reach.f k a0 a1 a2 a3 a4) (spec_l12Reach.f (k + 1) a0 a1 a2 a3 a4) := by
 intro a0 a1 a2 a3 a4 k
 obtain ⟨ih0, ih1, ih2, ih3, ih4, ih5, ih6⟩ := spec_l12Reach.mono_l k
 unfold spec_l12Reach.f
 repeat' first
  | (with_reducible exact ih0 _ _ _ _ _ _ _)
  | (with_reducible exact ih1 _ _ _ _ _ _)
  | (with_reducible exact ih2 _ _ _ _ _ _ _ _)
  | (with_reducible exact ih3 _ _ _ _ _ _ _ _ _ _)
  | (with_reducible exact ih4 _ _ _ _ _ _ _ _ _ _ _ _)
  | (with_reducible exact ih5 _ _ _ _ _ _ _ _ _ _ _)
  | (with_reducible exact ih6 _ _ _ _ _ _ _ _ _ _ _)
  | (with_reducible exact spec_l01Copy.mono _ _)
  | (with_reducible exact LeO.refl _)
  | (with_reducible exact LeO.none _)
  | (with_reducible refine LeO.ite ?_ ?_)
  | (with_reducible refine LeO.bind ?_ (fun _ => ?_))
  | exact ih0 _ _ _ _ _ _ _
  | exact ih1 _ _ _ _ _ _
  | exact ih2 _ _ _ _ _ _ _ _
  | exact ih3 _ _ _ _ _ _ _ _ _ _
  | exact ih4 _ _ _ _ _ _ _ _ _ _ _ _
  | exact ih5 _ _ _ _ _ _ _ _ _ _ _
  | exact ih6 _ _ _ _ _ _ _ _ _ _ _
  | exact spec_l01Copy.mono _ _
  | exact LeO.none _
  | refine LeO.ite ?_ ?_
  | refine LeO.bind ?_ (fun _ => ?_)
def spec_l12Reach.T28 : Bool × List (List Nat × List Nat) := (true, [([], []), ([], []), ([], []), ([1, 2], [1, 2]), ([3], [3]), ([4], [4]), ([], []), ([], []), ([6, 7], [6, 7]), ([8], [8]), ([9], [9]), ([0, 5, 0, 1, 2, 3, 4, 5, 6, 7, 8, 9, 10], [0, 5]), ([11, 10, 0, 1, 2, 3, 4, 5, 6, 7, 8, 9, 10], [10, 11])])
def spec_l12Reach.B28 : List Nat := [0, 0, 0, 6, 14, 30, 0, 0, 192, 448, 960, 2047, 4095]
theorem spec_l12Reach.tab28 : rtab .any (opsOf Tryd.f41 28) = spec_l12Reach.T28 := by kernel_rfl
theorem spec_l12Reach.bits28 : waitsOk spec_l12Reach.T28.2 spec_l12Reach.B28 = true := by kernel_rfl
set_option maxHeartbeats 8000000 in
set_option maxRecDepth 100000 in
theorem spec_l12Reach.calls (k : Nat) (A0 : Option Addr) (c0 : Nat) (l0 : List (S46)) (a1 : Int) (a2 : Int) (a3 : Int) (a4 : Int) (r : List Int) (w : World) (hr0 : Kd.C k46 w A0 l0.length l0) (hc0 : l0.length ≤ c0) (h : spec_l12Reach.f k l0 a1 a2 a3 a4 = some r) :
 Calls Tryd.prog 41 #[.slice A0 l0.length c0, .int .i64 a1, .int .i64 a2, .int .i64 a3, .int .i64 a4] w fun e w' => ∃ v0_ : Value, e = .returned (v0_) ∧ Kd.R (Kd.int .i64) 3 w' w.heap.size (fun _ => True) v0_ r ∧ Below w.heap.size w w' := by
 have HR0 := aM hr0
 have HC0 := aM hc0
 clear hr0 hc0
 have HB := aM (Below.refl w.heap.size w)
 have H : (spec_l12Reach.l0 k l0 a1 a2 a3 a4 (([] : List Int)) 0) = some r := h
 clear h
 obtain ⟨y333, hy333⟩ : ∃ y_ : List Int, y_ = (([] : List Int)) := ⟨_, rfl⟩
 replace H : (spec_l12Reach.l0 k l0 a1 a2 a3 a4 y333 0) = some r := by first | (rw [hy333]; with_reducible exact H) | (have H2_ := (Option.bind_some _ _).symm.trans H; rw [hy333]; with_reducible exact H2_) | (have H2_ := (Option.bind_some _ _).symm.trans H; with_reducible exact H2_) | with_reducible exact H | (rw [hy333]; exact H) | exact H
 have Ny333 := aM hy333
 clear hy333
 have H' := aM H
 clear H
 go_enter Tryd.func41, Tryd.ntmps41
 go_wp2_with (first | ((with_reducible refine gate_dst (N := 22) rfl ?_); refine Kd.R_lit (Kd.int .i64) _ 3 ?hg (N := 22) ?hd (xs := ([] : List Int)) (inner := []) (ok := fun _ => True) (okp := fun _ => True) ?hr ?hp (fun _ hk => hk) trivial (Below.refl _ _) (Nat.le_refl _) (by simp) ?_; (case hd => rfl); (case hg => rfl); (case hr => first | (go_simp; done) | (go_simp; rfl)); (case hp => exact (Reps.none _ _)); intro v334 w6 ho7 hb hg_ hnew_; clear hg_ hnew_; (first | rw [← Ny333.out] at ho7 | (simp only [Int.reduceToNat] at ho7; rw [← Ny333.out] at ho7)); have n_ := aA (Kd.R_lower ho7 (below_size (nH HB.out))) <| aM (below_step (nH HB.out) hb); clear HB; obtain ⟨HO335, HB⟩ := n_; clear hb ho7))
 go_loopg [11, 12] k (fun kq v11 v12 w' => ∃ (x11_1 : List Int) (x12_1 : Int), v12 = .int .i64 x12_1 ∧ Aside0 (spec_l12Reach.l0 kq l0 a1 a2 a3 a4 x11_1 x12_1 = some r) ∧ Aside0 (kq ≤ k) ∧ Aside0 (Kd.R (Kd.int .i64) 3 w' w.heap.size (fun _ => True) v11 x11_1) ∧ Aside0 (Below w.heap.size w w'))
 case atStart => exact ⟨(y333), (0), nS, H', ⟨Nat.le_refl _⟩, ⟨by exact nR HO335.out⟩, ⟨nH HB.out⟩⟩
 case round =>
  clear H'
  try clear p2; try clear c4
  obtain ⟨x11_1, x12_1, rfl, HA, HK1, HO_11, HB⟩ := hrel
  cases gk with
  | zero => exact absurd HA.out (by simp [spec_l12Reach.l0])
  | succ k1 =>
   have H := HA.out; clear HA
   simp only [spec_l12Reach.l0] at H
   by_cases c8 : x12_1 < 30
   · rw [if_pos c8] at H
     have c8b0 : decide (x12_1 < 30) = true := decide_eq_true c8
     clear c8
     by_cases c9 : x11_1.length < 17592186044416
     rotate_left
     · (rw [if_neg c9] at H; exact absurd H (by simp))
     rw [if_pos c9] at H
     have LMc9 := aM c9
     clear c9
     obtain ⟨y336, hy336⟩ : ∃ y_ : List Int, y_ = (x11_1 ++ [(-1)]) := ⟨_, rfl⟩
     replace H : (spec_l12Reach.l0 k1 l0 a1 a2 a3 a4 y336 (wrap64 (x12_1 + 1))) = some r := by first | (rw [hy336]; with_reducible exact H) | (have H2_ := (Option.bind_some _ _).symm.trans H; rw [hy336]; with_reducible exact H2_) | (have H2_ := (Option.bind_some _ _).symm.trans H; with_reducible exact H2_) | with_reducible exact H | (rw [hy336]; exact H) | exact H
     have Ny336 := aM hy336
     clear hy336
     have H' := aM H
     clear H
     go_wp2_with (first | ((with_reducible refine gate_builtin (b := .append) (xs := #[.tmp 27, .tmp 28]) rfl ?_); at_builtin; refine Kd.R_append (Kd.int .i64) (w0 := w) w.heap.size rfl (.tmp 27) (.tmp 28) 75 3 (.int .i64 0) 8 rfl Tryd.underlying75 info3 rfl (by decide) (by omega) u11 x11_1 (-1) [.int .i64 (-1)] (fun _ => True) (fun _ => False) rfl rfl ?aP (fun _ hk => hk.elim) ?aF ?aO ?aB ?aS ?aL ?_; (case aP => exact rfl); (case aB => exact (nH HB.out)); (case aF => exact (fun _ _ => trivial)); (case aO => exact (nR HO_11.out)); (case aS => exact (below_size (nH HB.out))); (case aL => have := LMc9.out; omega); intro v337 w10 ho hb hg hat; rw [← Ny336.out] at ho; have n_ := aA (hb) <| aM (ho); clear HB HO_11; obtain ⟨HB, HO338⟩ := n_; clear ho hb hg hat))
     go_roundg k1
     case measure => have := HK1.out; omega
     case rel => exact ⟨(y336), (wrap64 (x12_1 + 1)), nS, H', ⟨by have := HK1.out; omega⟩, ⟨by exact nR HO338.out⟩, ⟨nH HB.out⟩⟩
   · rw [if_neg c8] at H
     have c8b0 : decide (x12_1 < 30) = false := decide_eq_false c8
     clear c8
     by_cases c11 : 0 ≤ a1
     rotate_left
     · (rw [if_neg c11] at H; exact absurd H (by simp))
     rw [if_pos c11] at H
     have c11b0 : decide (0 ≤ a1) = true := decide_eq_true c11
     clear c11
     by_cases c12 : a1 < (x11_1.length : Int)
     rotate_left
     · (rw [if_neg c12] at H; exact absurd H (by simp))
     rw [if_pos c12] at H
     have c12b0 : decide (a1 < (x11_1.length : Int)) = true := decide_eq_true c12
     clear c12
     obtain ⟨y339, hy339⟩ : ∃ y_ : List Int, y_ = (x11_1.set (a1 : Int).toNat a2) := ⟨_, rfl⟩
     replace H : (spec_l12Reach.l1 k1 l0 a1 a3 a4 y339 0) = some r := by first | (rw [hy339]; with_reducible exact H) | (have H2_ := (Option.bind_some _ _).symm.trans H; rw [hy339]; with_reducible exact H2_) | (have H2_ := (Option.bind_some _ _).symm.trans H; with_reducible exact H2_) | with_reducible exact H | (rw [hy339]; exact H) | exact H
     have Ny339 := aM hy339
     clear hy339
     have H' := aM H
     clear H
     have p13 : 0 ≤ (a1 : Int) := of_decide_eq_true nQ
     have q13 : (a1 : Int) < ((x11_1.length : Int) : Int) := of_decide_eq_true nQ
     obtain ⟨go13, co13, eo13, gb13, gl13, cl13, HG13⟩ := Kd.R_form HO_11.out (by omega)
     (first | cases eo13 | (injection eo13 with ea_ en_ ec_; (first | subst ea_ | (injection ea_ with ea_; subst ea_)); subst ec_; clear en_))
     have GB13 := aM gb13
     have GG13 := aM HG13
     clear gb13 gl13 HG13
     obtain ⟨hx13_0, hf13_0⟩ := Kd.R_celln 0 HO_11.out (a1 : Int) p13 q13
     replace p13 := eq_true p13; replace q13 := eq_true q13
     have HP14 := Kd.R_putg HO_11.out (a1 : Int) a2
     go_wp2_with (first | ((with_reducible refine gate_store (t := 3) (p := 33) rfl ?_); refine store_event (t := 3) (p := 33) (v := ?vo_w15) (w1 := (wr.setCell ⟨go13, (a1 : Int).toNat, none⟩ (.int .i64 a2))) ?hg ?ho ?hn ?hr ?_; (case ho => rfl); (case hg => rfl); (case hn => rfl); (case hr => first | (go_simp; done) | (go_simp; rfl)); intro w15 hw; have hg : wr.grownBy w15 (some go13) := (by rw [hw]; exact HP14.2); have hp_ : Kd.R (Kd.int .i64) 3 w15 w.heap.size (fun _ => True) (.slice (some ⟨go13, 0, none⟩) x11_1.length co13) y339 := (by rw [hw, Ny339.out]; exact HP14.1); clear HP14; have n_ := aA (hp_) <| aM (by rw [hw]; exact below_set (HB.out) GB13.out : Below w.heap.size w w15); clear HO_11 HB; obtain ⟨HO_11, HB⟩ := n_; clear hg hw hp_))
     go_loopg [11, 13] k1 (fun kq v11 v13 w' => ∃ (x11_2 : List Int) (x13_2 : Int), v13 = .int .i64 x13_2 ∧ Aside0 (spec_l12Reach.l1 kq l0 a1 a3 a4 x11_2 x13_2 = some r) ∧ Aside0 (kq ≤ k1) ∧ Aside0 (Kd.R (Kd.int .i64) 3 w' w.heap.size (fun _ => True) v11 x11_2) ∧ Aside0 (Below w.heap.size w w'))
     case atStart => exact ⟨(y339), (0), nS, H', ⟨Nat.le_refl _⟩, ⟨by exact nR HO_11.out⟩, ⟨nH HB.out⟩⟩
     case round =>
      clear H'
      try clear c1; try clear p1; try clear q1; try clear hx1; try clear p2; try clear c4; try clear p6; try clear c8; try clear c8b0; try clear c9; try clear c11; try clear c11b0; try clear c12; try clear c12b0; try clear p13; try clear q13; try clear hx13; try clear hf13; try clear hx13_0; try clear p13; try clear p2; try clear q13
      obtain ⟨x11_2, x13_2, rfl, HA, HK2, HO_11, HB⟩ := hrel
      cases gk with
      | zero => exact absurd HA.out (by simp [spec_l12Reach.l1])
      | succ k2 =>
       have H := HA.out; clear HA
       simp only [spec_l12Reach.l1] at H
       by_cases c16 : x13_2 < a4
       · rw [if_pos c16] at H
         have c16b0 : decide (x13_2 < a4) = true := decide_eq_true c16
         clear c16
         obtain ⟨t340, A170, H⟩ := Option.bind_eq_some_iff.mp H
         have A17 := aM A170
         clear A170
         have H' := aM H
         clear H
         obtain ⟨Ao18, co18, eo18⟩ := Kd.R_slice HO_11.out
         subst eo18
         go_wp2_with (first | ((with_reducible refine gate_callee (f := 58) rfl ?_); refine goesL_ (some 40) rfl rfl Tryd.func58 (by kernel_rfl) rfl #[.slice Ao18 x11_2.length co18] rfl nM ?_; (with_reducible refine (spec_l01Copy.calls k2 _ _ x11_2 t340 _ ?side1 ?side2 A17.out).mono ?_); (case side1 => repeat (first | exact (Kd.R_reads' HO_11.out).2.2 | (with_reducible refine Kd.C_alloc ?_ _) | (with_reducible refine Kd.C_drewN ?_ _) | (with_reducible refine Kd.C_drew ?_))); (case side2 => exact (Kd.R_reads' HO_11.out).2.1); rintro e w19 ⟨v341, rfl, ho0, hb⟩; refine ⟨_, rfl, ?_⟩; have n_ := aA (Kd.R_elder' (nR HO_11.out) (Kd.R_base ho0) hb) <| aA (Kd.R_lower (Kd.R_new' ho0 (Kd.R_lt (nR HO_11.out))) (below_size (nH HB.out))) <| aM (below_step (nH HB.out) hb); clear HO_11 HB; obtain ⟨HO_11, HO342, HB⟩ := n_; (try clear hb); (try clear hb2); (try clear hk); (try clear hi); (try clear ho0)))
         go_loopg [15] k2 (fun kq v15 w' => ∃ (x14_3 : List Int) (x15_3 : Int), v15 = .int .i64 x15_3 ∧ Aside0 (spec_l12Reach.l2 kq l0 a1 a3 a4 x11_2 x13_2 x14_3 x15_3 = some r) ∧ Aside0 (kq ≤ k2) ∧ Aside0 (Kd.R (Kd.int .i64) 3 w' w.heap.size (fun k_ => some k_ ≠ (v341 : Value).ownBlock) (.slice Ao18 x11_2.length co18) x11_2) ∧ Aside0 (Kd.R (Kd.int .i64) 3 w' w.heap.size (fun k_ => some k_ ≠ ((.slice Ao18 x11_2.length co18) : Value).ownBlock) v341 x14_3) ∧ Aside0 (Below w.heap.size w w'))
         case atStart => exact ⟨(t340), (0), nS, H', ⟨Nat.le_refl _⟩, ⟨by (with_reducible repeat (first | apply Kd.R_alloc | apply Kd.R_drewN | apply Kd.R_drew)); exact Kd.R_mono HO_11.out (fun _ hk => hk.2)⟩, ⟨by (with_reducible repeat (first | apply Kd.R_alloc | apply Kd.R_drewN | apply Kd.R_drew)); exact Kd.R_mono HO342.out (fun _ hk => hk.2)⟩, ⟨nH HB.out⟩⟩
         case round =>
          clear H'
          try clear c1; try clear p1; try clear q1; try clear hx1; try clear p2; try clear c4; try clear c5; try clear p6; try clear c8; try clear c8b0; try clear c9; try clear c11; try clear c11b0; try clear c12; try clear c12b0; try clear p13; try clear q13; try clear hx13; try clear hf13; try clear c16; try clear c16b0; try clear hx13_0; try clear p1; try clear p13; try clear p2; try clear p6; try clear q1; try clear q13
          obtain ⟨x14_3, x15_3, rfl, HA, HK3, HO_11, HO_14, HB⟩ := hrel
          cases gk with
          | zero => exact absurd HA.out (by simp [spec_l12Reach.l2])
          | succ k3 =>
           have H := HA.out; clear HA
           simp only [spec_l12Reach.l2] at H
           by_cases c20 : x15_3 < (l0.length : Int)
           · rw [if_pos c20] at H
             have c20b0 : decide (x15_3 < (l0.length : Int)) = true := decide_eq_true c20
             clear c20
             by_cases c21 : 0 ≤ x15_3
             rotate_left
             · (rw [if_neg c21] at H; exact absurd H (by simp))
             rw [if_pos c21] at H
             have c21b0 : decide (0 ≤ x15_3) = true := decide_eq_true c21
             clear c21
             have H' := aM H
             clear H
             have p343 : 0 ≤ (x15_3 : Int) := of_decide_eq_true nQ
             have q343 : x15_3 < (l0.length : Int) := of_decide_eq_true nQ
             obtain ⟨ad343, A343_1, c343_1, e343, hx343_0, hx343_1, hl343_1, hi343_1⟩ := at_T46 HR0.out x15_3 p343 q343
             cases e343
             replace hx343_0 := (HB.out.cell (World.block_lt_of_cell? w _ hx343_0)).trans hx343_0
             replace hx343_1 := (HB.out.cell (World.block_lt_of_cell? w _ hx343_1)).trans hx343_1
             have HR343_1 := aM hi343_1
             have HC343_1 := aM hl343_1
             clear hi343_1 hl343_1; replace p343 := eq_true p343; replace q343 := eq_true q343; go_wp2
             go_loopg [17] k3 (fun kq v17 w' => ∃ (x14_4 : List Int) (x17_4 : Int), v17 = .int .i64 x17_4 ∧ Aside0 (spec_l12Reach.l3 kq l0 a1 a3 a4 x11_2 x13_2 x14_4 x15_3 ((rd_T46 l0 x15_3).f1) x17_4 = some r) ∧ Aside0 (kq ≤ k3) ∧ Aside0 (Kd.R (Kd.int .i64) 3 w' w.heap.size (fun k_ => some k_ ≠ (v341 : Value).ownBlock) (.slice Ao18 x11_2.length co18) x11_2) ∧ Aside0 (Kd.R (Kd.int .i64) 3 w' w.heap.size (fun k_ => some k_ ≠ ((.slice Ao18 x11_2.length co18) : Value).ownBlock) v341 x14_4) ∧ Aside0 (Below w.heap.size w w'))
             case atStart => exact ⟨(x14_3), (0), nS, H', ⟨Nat.le_refl _⟩, ⟨by exact nR HO_11.out⟩, ⟨by exact nR HO_14.out⟩, ⟨nH HB.out⟩⟩
             case round =>
              clear H'
              try clear c1; try clear p1; try clear q1; try clear hx1; try clear c2; try clear p2; try clear c3; try clear p3; try clear q3; try clear hx3; try clear c4; try clear c5; try clear p6; try clear c8; try clear c8b0; try clear c9; try clear c11; try clear c11b0; try clear c12; try clear c12b0; try clear p13; try clear q13; try clear hx13; try clear hf13; try clear c16; try clear c16b0; try clear c20; try clear c20b0; try clear c21; try clear c21b0; try clear hx13_0; try clear hx343_0; try clear hx343_1; try clear p1; try clear p13; try clear p2; try clear p343; try clear p6; try clear q1
              try clear q13; try clear q343
              obtain ⟨x14_4, x17_4, rfl, HA, HK4, HO_11, HO_14, HB⟩ := hrel
              cases gk with
              | zero => exact absurd HA.out (by simp [spec_l12Reach.l3])
              | succ k4 =>
               have H := HA.out; clear HA
               simp only [spec_l12Reach.l3] at H
               by_cases c22 : x17_4 < (((rd_T46 l0 x15_3).f1).length : Int)
               · rw [if_pos c22] at H
                 have c22b0 : decide (x17_4 < (((rd_T46 l0 x15_3).f1).length : Int)) = true := decide_eq_true c22
                 clear c22
                 by_cases c23 : 0 ≤ x17_4
                 rotate_left
                 · (rw [if_neg c23] at H; exact absurd H (by simp))
                 rw [if_pos c23] at H
                 have c23b0 : decide (0 ≤ x17_4) = true := decide_eq_true c23
                 clear c23
                 by_cases c24 : 0 ≤ ((rd_T43 ((rd_T46 l0 x15_3).f1) x17_4).f0)
                 rotate_left
                 · (rw [if_neg c24] at H; exact absurd H (by simp))
                 rw [if_pos c24] at H
                 have c24b0 : decide (0 ≤ ((rd_T43 ((rd_T46 l0 x15_3).f1) x17_4).f0)) = true := decide_eq_true c24
                 clear c24
                 by_cases c25 : ((rd_T43 ((rd_T46 l0 x15_3).f1) x17_4).f0) < (x11_2.length : Int)
                 rotate_left
                 · (rw [if_neg c25] at H; exact absurd H (by simp))
                 rw [if_pos c25] at H
                 have c25b0 : decide (((rd_T43 ((rd_T46 l0 x15_3).f1) x17_4).f0) < (x11_2.length : Int)) = true := decide_eq_true c25
                 clear c25
                 have HC26 := aM H
                 clear H
                 have p344 : 0 ≤ (x17_4 : Int) := of_decide_eq_true nQ
                 have q344 : x17_4 < (((rd_T46 l0 x15_3).f1).length : Int) := of_decide_eq_true nQ
                 obtain ⟨ad344, e344, hx344_0, hx344_1, hx344_2⟩ := at_T43 HR343_1.out x17_4 p344 q344
                 cases e344
                 replace hx344_0 := (HB.out.cell (World.block_lt_of_cell? w _ hx344_0)).trans hx344_0
                 replace hx344_1 := (HB.out.cell (World.block_lt_of_cell? w _ hx344_1)).trans hx344_1
                 replace hx344_2 := (HB.out.cell (World.block_lt_of_cell? w _ hx344_2)).trans hx344_2
                 replace p344 := eq_true p344; replace q344 := eq_true q344
                 have p345 : 0 ≤ (((rd_T43 ((rd_T46 l0 x15_3).f1) x17_4).f0) : Int) := of_decide_eq_true nQ
                 have q345 : ((rd_T43 ((rd_T46 l0 x15_3).f1) x17_4).f0) < (x11_2.length : Int) := of_decide_eq_true nQ
                 obtain ⟨ad345, e345, hx345_0⟩ := Kd.at_int (Kd.R_reads' HO_11.out).2.2 ((rd_T43 ((rd_T46 l0 x15_3).f1) x17_4).f0) p345 q345
                 cases e345; replace p345 := eq_true p345; replace q345 := eq_true q345
                 have p346 : 0 ≤ (x17_4 : Int) := of_decide_eq_true nQ
                 have q346 : x17_4 < (((rd_T46 l0 x15_3).f1).length : Int) := of_decide_eq_true nQ
                 obtain ⟨ad346, e346, hx346_0, hx346_1, hx346_2⟩ := at_T43 HR343_1.out x17_4 p346 q346
                 obtain rfl : ad344 = ad346 := (by injection e346)
                 replace hx346_0 := (HB.out.cell (World.block_lt_of_cell? w _ hx346_0)).trans hx346_0
                 replace hx346_1 := (HB.out.cell (World.block_lt_of_cell? w _ hx346_1)).trans hx346_1
                 replace hx346_2 := (HB.out.cell (World.block_lt_of_cell? w _ hx346_2)).trans hx346_2
                 replace p346 := eq_true p346; replace q346 := eq_true q346
                 go_upto_if 73 with (fail)
                 go_cut [19] (fun v19 wc => ∃ (kq : Nat) (x19_25 : Int), v19 = .int .i64 x19_25 ∧ Aside0 (spec_l12Reach.j4 kq l0 a1 a3 a4 x11_2 x13_2 x14_4 x15_3 ((rd_T46 l0 x15_3).f1) x17_4 (rd x11_2 ((rd_T43 ((rd_T46 l0 x15_3).f1) x17_4).f0)) x19_25 = some r) ∧ Aside0 (kq ≤ k4) ∧ Aside0 (Kd.R (Kd.int .i64) 3 wc w.heap.size (fun k_ => some k_ ≠ (v341 : Value).ownBlock) (.slice (some ad345) x11_2.length co18) x11_2) ∧ Aside0 (Kd.R (Kd.int .i64) 3 wc w.heap.size (fun k_ => some k_ ≠ ((.slice (some ad345) x11_2.length co18) : Value).ownBlock) v341 x14_4) ∧ Aside0 (Below w.heap.size w wc))
                 case first =>
                  have H := HC26.out; clear HC26
                  by_cases c27 : ((rd_T43 ((rd_T46 l0 x15_3).f1) x17_4).f0) = a1
                  · rw [if_pos c27] at H
                    have c27b0 : (((rd_T43 ((rd_T46 l0 x15_3).f1) x17_4).f0) == a1) = true := beq_iff_eq.mpr c27
                    have c27b1 : (((rd_T43 ((rd_T46 l0 x15_3).f1) x17_4).f0) != a1) = false := bne_eq_false_iff_eq.mpr c27
                    clear c27
                    (first | rw [c27b0] | (simp only [i64_w, i32_w]; rw [c27b0]) | skip)
                    have H' := aM H
                    clear H; go_wp2
                    go_meet
                    case rel => exact ⟨_, (0), nS, H', ⟨by have := HK1.out; have := HK2.out; have := HK3.out; have := HK4.out; first | omega | exact Nat.le_refl _⟩, ⟨by exact nR HO_11.out⟩, ⟨by exact nR HO_14.out⟩, ⟨nH HB.out⟩⟩
                  · rw [if_neg c27] at H
                    have c27b0 : (((rd_T43 ((rd_T46 l0 x15_3).f1) x17_4).f0) == a1) = false := beq_eq_false_iff_ne.mpr c27
                    have c27b1 : (((rd_T43 ((rd_T46 l0 x15_3).f1) x17_4).f0) != a1) = true := bne_iff_ne.mpr c27
                    (first | rw [c27b0] | (simp only [i64_w, i32_w]; rw [c27b0]) | skip)
                    have H' := aM H
                    clear H; go_wp2
                    go_meet
                    case rel => exact ⟨_, (a3), nS, H', ⟨by have := HK1.out; have := HK2.out; have := HK3.out; have := HK4.out; first | omega | exact Nat.le_refl _⟩, ⟨by exact nR HO_11.out⟩, ⟨by exact nR HO_14.out⟩, ⟨nH HB.out⟩⟩
                 case rest =>
                  clear HC26; try clear c1; try clear p1; try clear q1; try clear hx1; try clear c2; try clear p2; try clear c3; try clear p3; try clear q3; try clear hx3; try clear c4; try clear c5; try clear p6; try clear c8; try clear c8b0; try clear c9; try clear c11; try clear c11b0; try clear c12; try clear c12b0; try clear p13; try clear q13; try clear hx13; try clear hf13; try clear c16; try clear c16b0; try clear c20; try clear c20b0; try clear c21; try clear c21b0; try clear c22; try clear c22b0; try clear c23; try clear c23b0; try clear c24; try clear c24b0; try clear c25; try clear c25b0
                  try clear c27; try clear c27b0; try clear c27b1; try clear hx13_0; try clear hx343_0; try clear hx343_1; try clear hx344_0; try clear hx344_1; try clear hx344_2; try clear hx345_0; try clear hx346_0; try clear hx346_1; try clear hx346_2; try clear p1; try clear p13; try clear p2; try clear p3; try clear p343; try clear p344; try clear p345; try clear p346; try clear p6; try clear q1; try clear q13; try clear q3; try clear q343; try clear q344; try clear q345; try clear q346
                  obtain ⟨kq, x19_25, rfl, HA, HJ25, HO_11, HO_14, HB⟩ := hcut
                  cases kq with
                  | zero => exact absurd HA.out (by simp [spec_l12Reach.j4])
                  | succ kj25 =>
                   have H := HA.out; clear HA
                   simp only [spec_l12Reach.j4] at H
                   have HC28 := aM H
                   clear H
                   go_upto_region 22 with (fail)
                   go_cut [86] (fun v86 wc => ∃ (kq : Nat) (x86_27 : Bool), v86 = .bool x86_27 ∧ Aside0 (spec_l12Reach.j5 kq l0 a1 a3 a4 x11_2 x13_2 x14_4 x15_3 ((rd_T46 l0 x15_3).f1) x17_4 x86_27 = some r) ∧ Aside0 (kq ≤ kj25) ∧ Aside0 (Kd.R (Kd.int .i64) 3 wc w.heap.size (fun k_ => some k_ ≠ (v341 : Value).ownBlock) (.slice (some ad345) x11_2.length co18) x11_2) ∧ Aside0 (Kd.R (Kd.int .i64) 3 wc w.heap.size (fun k_ => some k_ ≠ ((.slice (some ad345) x11_2.length co18) : Value).ownBlock) v341 x14_4) ∧ Aside0 (Below w.heap.size w wc))
                   case first =>
                    have H := HC28.out; clear HC28
                    by_cases c29 : (rd x11_2 ((rd_T43 ((rd_T46 l0 x15_3).f1) x17_4).f0)) < 0
                    · rw [if_pos c29] at H
                      have c29b0 : decide ((rd x11_2 ((rd_T43 ((rd_T46 l0 x15_3).f1) x17_4).f0)) < 0) = true := decide_eq_true c29
                      clear c29
                      (first | rw [c29b0] | (simp only [i64_w, i32_w]; rw [c29b0]) | skip)
                      have H' := aM H
                      clear H; go_wp2
                      go_meet
                      case rel => exact ⟨_, (true), nS, H', ⟨by have := HK1.out; have := HK2.out; have := HK3.out; have := HK4.out; have := HJ25.out; first | omega | exact Nat.le_refl _⟩, ⟨by exact nR HO_11.out⟩, ⟨by exact nR HO_14.out⟩, ⟨nH HB.out⟩⟩
                    · rw [if_neg c29] at H
                      have c29b0 : decide ((rd x11_2 ((rd_T43 ((rd_T46 l0 x15_3).f1) x17_4).f0)) < 0) = false := decide_eq_false c29
                      clear c29
                      (first | rw [c29b0] | (simp only [i64_w, i32_w]; rw [c29b0]) | skip)
                      by_cases c30 : 0 ≤ x17_4
                      rotate_left
                      · (rw [if_neg c30] at H; exact absurd H (by simp))
                      rw [if_pos c30] at H
                      have c30b0 : decide (0 ≤ x17_4) = true := decide_eq_true c30
                      clear c30
                      by_cases c31 : x17_4 < (((rd_T46 l0 x15_3).f1).length : Int)
                      rotate_left
                      · (rw [if_neg c31] at H; exact absurd H (by simp))
                      rw [if_pos c31] at H
                      have c31b0 : decide (x17_4 < (((rd_T46 l0 x15_3).f1).length : Int)) = true := decide_eq_true c31
                      clear c31
                      have H' := aM H
                      clear H
                      have p347 : 0 ≤ (x17_4 : Int) := of_decide_eq_true nQ
                      have q347 : x17_4 < (((rd_T46 l0 x15_3).f1).length : Int) := of_decide_eq_true nQ
                      obtain ⟨ad347, e347, hx347_0, hx347_1, hx347_2⟩ := at_T43 HR343_1.out x17_4 p347 q347
                      obtain rfl : ad344 = ad347 := (by injection e347)
                      replace hx347_0 := (HB.out.cell (World.block_lt_of_cell? w _ hx347_0)).trans hx347_0
                      replace hx347_1 := (HB.out.cell (World.block_lt_of_cell? w _ hx347_1)).trans hx347_1
                      replace hx347_2 := (HB.out.cell (World.block_lt_of_cell? w _ hx347_2)).trans hx347_2
                      replace p347 := eq_true p347; replace q347 := eq_true q347; go_wp2
                      go_meet
                      case rel => exact ⟨_, (decide (((rd_T43 ((rd_T46 l0 x15_3).f1) x17_4).f2) < (wrap64 ((rd x11_2 ((rd_T43 ((rd_T46 l0 x15_3).f1) x17_4).f0)) + x19_25)))), nS, H', ⟨by have := HK1.out; have := HK2.out; have := HK3.out; have := HK4.out; have := HJ25.out; first | omega | exact Nat.le_refl _⟩, ⟨by exact nR HO_11.out⟩, ⟨by exact nR HO_14.out⟩, ⟨nH HB.out⟩⟩
                   case rest =>
                    clear HC28; try clear c1; try clear p1; try clear q1; try clear hx1; try clear c2; try clear p2; try clear c3; try clear p3; try clear q3; try clear hx3; try clear c4; try clear c5; try clear p6; try clear c8; try clear c8b0; try clear c9; try clear c11; try clear c11b0; try clear c12; try clear c12b0; try clear p13; try clear q13; try clear hx13; try clear hf13; try clear c16; try clear c16b0; try clear c20; try clear c20b0; try clear c21; try clear c21b0; try clear c22; try clear c22b0; try clear c23; try clear c23b0; try clear c24; try clear c24b0; try clear c25; try clear c25b0
                    try clear c27; try clear c27b0; try clear c27b1; try clear c29; try clear c29b0; try clear c30; try clear c30b0; try clear c31; try clear c31b0; try clear hx13_0; try clear hx343_0; try clear hx343_1; try clear hx344_0; try clear hx344_1; try clear hx344_2; try clear hx345_0; try clear hx346_0; try clear hx346_1; try clear hx346_2; try clear hx347_0; try clear hx347_1; try clear hx347_2; try clear p1; try clear p13; try clear p2; try clear p3; try clear p343; try clear p344; try clear p345; try clear p346; try clear p347; try clear p6; try clear q1; try clear q13; try clear q3
                    try clear q343; try clear q344; try clear q345; try clear q346; try clear q347
                    obtain ⟨kq, x86_27, rfl, HA, HJ27, HO_11, HO_14, HB⟩ := hcut
                    cases kq with
                    | zero => exact absurd HA.out (by simp [spec_l12Reach.j5])
                    | succ kj27 =>
                     have H := HA.out; clear HA
                     simp only [spec_l12Reach.j5] at H
                     by_cases c32 : x86_27 = true
                     · subst c32
                       rw [if_pos rfl] at H
                       have H' := aM H
                       clear H; go_wp2
                       go_roundg kj27
                       case measure => have := HK1.out; have := HK2.out; have := HK3.out; have := HK4.out; have := HJ25.out; have := HJ27.out; omega
                       case rel => exact ⟨(x14_4), (wrap64 (x17_4 + 1)), nS, H', ⟨by have := HK1.out; have := HK2.out; have := HK3.out; have := HK4.out; have := HJ25.out; have := HJ27.out; omega⟩, ⟨by exact nR HO_11.out⟩, ⟨by exact nR HO_14.out⟩, ⟨nH HB.out⟩⟩
                     · replace c32 := Bool.eq_false_iff.mpr c32
                       subst c32
                       rw [if_neg nN] at H
                       have H' := aM H
                       clear H; go_wp2
                       go_loopg [20] kj27 (fun kq v20 w' => ∃ (x14_7 : List Int) (x20_7 : Int), v20 = .int .i64 x20_7 ∧ Aside0 (spec_l12Reach.l4 kq l0 a1 a3 a4 x11_2 x13_2 x14_7 x15_3 ((rd_T46 l0 x15_3).f1) x17_4 x20_7 = some r) ∧ Aside0 (kq ≤ kj27) ∧ Aside0 (Kd.R (Kd.int .i64) 3 w' w.heap.size (fun k_ => some k_ ≠ (v341 : Value).ownBlock) (.slice (some ad345) x11_2.length co18) x11_2) ∧ Aside0 (Kd.R (Kd.int .i64) 3 w' w.heap.size (fun k_ => some k_ ≠ ((.slice (some ad345) x11_2.length co18) : Value).ownBlock) v341 x14_7) ∧ Aside0 (Below w.heap.size w w'))
                       case atStart => exact ⟨(x14_4), (wrap64 (x17_4 + 1)), nS, H', ⟨Nat.le_refl _⟩, ⟨by exact nR HO_11.out⟩, ⟨by exact nR HO_14.out⟩, ⟨nH HB.out⟩⟩
                       case round =>
                        clear H'
                        try clear c1; try clear p1; try clear q1; try clear hx1; try clear c2; try clear p2; try clear c3; try clear p3; try clear q3; try clear hx3; try clear c4; try clear c5; try clear p6; try clear c8; try clear c8b0; try clear c9; try clear c11; try clear c11b0; try clear c12; try clear c12b0; try clear p13; try clear q13; try clear hx13; try clear hf13; try clear c16; try clear c16b0; try clear c20; try clear c20b0; try clear c21; try clear c21b0; try clear c22; try clear c22b0; try clear c23; try clear c23b0; try clear c24; try clear c24b0; try clear c25; try clear c25b0
                        try clear c27; try clear c27b0; try clear c27b1; try clear c29; try clear c29b0; try clear c30; try clear c30b0; try clear c31; try clear c31b0; try clear c32; try clear hx13_0; try clear hx343_0; try clear hx343_1; try clear hx344_0; try clear hx344_1; try clear hx344_2; try clear hx345_0; try clear hx346_0; try clear hx346_1; try clear hx346_2; try clear hx347_0; try clear hx347_1; try clear hx347_2; try clear p1; try clear p13; try clear p2; try clear p3; try clear p343; try clear p344; try clear p345; try clear p346; try clear p347; try clear p6; try clear q1; try clear q13
                        try clear q3; try clear q343; try clear q344; try clear q345; try clear q346; try clear q347
                        obtain ⟨x14_7, x20_7, rfl, HA, HK7, HO_11, HO_14, HB⟩ := hrel
                        cases gk with
                        | zero => exact absurd HA.out (by simp [spec_l12Reach.l4])
                        | succ k7 =>
                         have H := HA.out; clear HA
                         simp only [spec_l12Reach.l4] at H
                         by_cases c33 : x20_7 < (((rd_T46 l0 x15_3).f1).length : Int)
                         · rw [if_pos c33] at H
                           have c33b0 : decide (x20_7 < (((rd_T46 l0 x15_3).f1).length : Int)) = true := decide_eq_true c33
                           clear c33
                           by_cases c34 : 0 ≤ x20_7
                           rotate_left
                           · (rw [if_neg c34] at H; exact absurd H (by simp))
                           rw [if_pos c34] at H
                           have c34b0 : decide (0 ≤ x20_7) = true := decide_eq_true c34
                           clear c34
                           by_cases c35 : 0 ≤ ((rd_T43 ((rd_T46 l0 x15_3).f1) x20_7).f0)
                           rotate_left
                           · (rw [if_neg c35] at H; exact absurd H (by simp))
                           rw [if_pos c35] at H
                           have c35b0 : decide (0 ≤ ((rd_T43 ((rd_T46 l0 x15_3).f1) x20_7).f0)) = true := decide_eq_true c35
                           clear c35
                           by_cases c36 : ((rd_T43 ((rd_T46 l0 x15_3).f1) x20_7).f0) < (x14_7.length : Int)
                           rotate_left
                           · (rw [if_neg c36] at H; exact absurd H (by simp))
                           rw [if_pos c36] at H
                           have c36b0 : decide (((rd_T43 ((rd_T46 l0 x15_3).f1) x20_7).f0) < (x14_7.length : Int)) = true := decide_eq_true c36
                           clear c36
                           by_cases c37 : (rd x14_7 ((rd_T43 ((rd_T46 l0 x15_3).f1) x20_7).f0)) < 0
                           · rw [if_pos c37] at H
                             have c37b0 : decide ((rd x14_7 ((rd_T43 ((rd_T46 l0 x15_3).f1) x20_7).f0)) < 0) = true := decide_eq_true c37
                             clear c37
                             obtain ⟨y352, hy352⟩ : ∃ y_ : List Int, y_ = (x14_7.set (((rd_T43 ((rd_T46 l0 x15_3).f1) x20_7).f0) : Int).toNat ((rd_T43 ((rd_T46 l0 x15_3).f1) x20_7).f1)) := ⟨_, rfl⟩
                             replace H : (spec_l12Reach.l4 k7 l0 a1 a3 a4 x11_2 x13_2 y352 x15_3 ((rd_T46 l0 x15_3).f1) x17_4 (wrap64 (x20_7 + 1))) = some r := by first | (rw [hy352]; with_reducible exact H) | (have H2_ := (Option.bind_some _ _).symm.trans H; rw [hy352]; with_reducible exact H2_) | (have H2_ := (Option.bind_some _ _).symm.trans H; with_reducible exact H2_) | with_reducible exact H | (rw [hy352]; exact H) | exact H
                             have Ny352 := aM hy352
                             clear hy352
                             have H' := aM H
                             clear H
                             have p348 : 0 ≤ (x20_7 : Int) := of_decide_eq_true nQ
                             have q348 : x20_7 < (((rd_T46 l0 x15_3).f1).length : Int) := of_decide_eq_true nQ
                             obtain ⟨ad348, e348, hx348_0, hx348_1, hx348_2⟩ := at_T43 HR343_1.out x20_7 p348 q348
                             obtain rfl : ad344 = ad348 := (by injection e348)
                             replace hx348_0 := (HB.out.cell (World.block_lt_of_cell? w _ hx348_0)).trans hx348_0
                             replace hx348_1 := (HB.out.cell (World.block_lt_of_cell? w _ hx348_1)).trans hx348_1
                             replace hx348_2 := (HB.out.cell (World.block_lt_of_cell? w _ hx348_2)).trans hx348_2
                             replace p348 := eq_true p348; replace q348 := eq_true q348
                             obtain ⟨Ao39, co39, eo39⟩ := Kd.R_slice HO_14.out
                             subst eo39
                             have p349 : 0 ≤ (((rd_T43 ((rd_T46 l0 x15_3).f1) x20_7).f0) : Int) := of_decide_eq_true nQ
                             have q349 : ((rd_T43 ((rd_T46 l0 x15_3).f1) x20_7).f0) < (x14_7.length : Int) := of_decide_eq_true nQ
                             obtain ⟨ad349, e349, hx349_0⟩ := Kd.at_int (Kd.R_reads' HO_14.out).2.2 ((rd_T43 ((rd_T46 l0 x15_3).f1) x20_7).f0) p349 q349
                             cases e349; replace p349 := eq_true p349; replace q349 := eq_true q349
                             try go_wp2
                             have n_ := aA (Kd.R_drew HO_11.out) <| aA (Kd.R_drew HO_14.out) <| aM (below_drew1 HB.out); clear HO_11 HO_14 HB; obtain ⟨HO_11, HO_14, HB⟩ := n_
                             have p350 : 0 ≤ (x20_7 : Int) := of_decide_eq_true nQ
                             have q350 : x20_7 < (((rd_T46 l0 x15_3).f1).length : Int) := of_decide_eq_true nQ
                             obtain ⟨ad350, e350, hx350_0, hx350_1, hx350_2⟩ := at_T43 HR343_1.out x20_7 p350 q350
                             have hw350_2 := hx350_2; have hw350_1 := hx350_1; have hw350_0 := hx350_0
                             obtain rfl : ad344 = ad350 := (by injection e350)
                             replace hx350_0 := (HB.out.cell (World.block_lt_of_cell? w _ hx350_0)).trans hx350_0
                             replace hx350_1 := (HB.out.cell (World.block_lt_of_cell? w _ hx350_1)).trans hx350_1
                             replace hx350_2 := (HB.out.cell (World.block_lt_of_cell? w _ hx350_2)).trans hx350_2
                             replace p350 := eq_true p350; replace q350 := eq_true q350
                             have p351 : 0 ≤ (x20_7 : Int) := of_decide_eq_true nQ
                             have q351 : x20_7 < (((rd_T46 l0 x15_3).f1).length : Int) := of_decide_eq_true nQ
                             obtain ⟨ad351, e351, hx351_0, hx351_1, hx351_2⟩ := at_T43 HR343_1.out x20_7 p351 q351
                             have hw351_2 := hx351_2; have hw351_1 := hx351_1; have hw351_0 := hx351_0
                             obtain rfl : ad344 = ad351 := (by injection e351)
                             replace hx351_0 := (HB.out.cell (World.block_lt_of_cell? w _ hx351_0)).trans hx351_0
                             replace hx351_1 := (HB.out.cell (World.block_lt_of_cell? w _ hx351_1)).trans hx351_1
                             replace hx351_2 := (HB.out.cell (World.block_lt_of_cell? w _ hx351_2)).trans hx351_2
                             replace p351 := eq_true p351; replace q351 := eq_true q351
                             have p38 : 0 ≤ (((rd_T43 ((rd_T46 l0 x15_3).f1) x20_7).f0) : Int) := of_decide_eq_true nQ
                             have q38 : (((rd_T43 ((rd_T46 l0 x15_3).f1) x20_7).f0) : Int) < ((x14_7.length : Int) : Int) := of_decide_eq_true nQ
                             obtain ⟨go38, co38, eo38, gb38, gl38, cl38, HG38⟩ := Kd.R_form HO_14.out (by omega)
                             (first | cases eo38 | (injection eo38 with ea_ en_ ec_; (first | subst ea_ | (injection ea_ with ea_; subst ea_)); subst ec_; clear en_))
                             have GB38 := aM gb38
                             have GG38 := aM HG38
                             clear gb38 gl38 HG38
                             (first | simp only [add_plain] at hx349_0 | skip)
                             obtain ⟨hx38_0, hf38_0⟩ := Kd.R_celln 0 HO_14.out (((rd_T43 ((rd_T46 l0 x15_3).f1) x20_7).f0) : Int) p38 q38
                             replace p38 := eq_true p38; replace q38 := eq_true q38
                             have HP41 := Kd.R_putn HO_14.out (((rd_T43 ((rd_T46 l0 x15_3).f1) x20_7).f0) : Int) ((rd_T43 ((rd_T46 l0 x15_3).f1) x20_7).f1)
                             rw [← Ny352.out] at HP41
                             have HQ41 := aM HP41
                             clear HP41
                             refine start_ (n := 13) (S := fun w' => w'.cell? (ad344.add ((x20_7).toNat * 3)) = some (.int .i64 ((rd_T43 ((rd_T46 l0 x15_3).f1) x20_7).f0)) ∧ w'.cell? ⟨(ad344.add ((x20_7).toNat * 3)).block, (ad344.add ((x20_7).toNat * 3)).off + 1, none⟩ = some (.int .i64 ((rd_T43 ((rd_T46 l0 x15_3).f1) x20_7).f1)) ∧ w'.cell? ⟨(ad344.add ((x20_7).toNat * 3)).block, (ad344.add ((x20_7).toNat * 3)).off + 2, none⟩ = some (.int .i64 ((rd_T43 ((rd_T46 l0 x15_3).f1) x20_7).f2)) ∧ w'.cell? (ad344.add ((x20_7).toNat * 3)) = some (.int .i64 ((rd_T43 ((rd_T46 l0 x15_3).f1) x20_7).f0)) ∧ w'.cell? ⟨(ad344.add ((x20_7).toNat * 3)).block, (ad344.add ((x20_7).toNat * 3)).off + 1, none⟩ = some (.int .i64 ((rd_T43 ((rd_T46 l0 x15_3).f1) x20_7).f1)) ∧ w'.cell? ⟨(ad344.add ((x20_7).toNat * 3)).block, (ad344.add ((x20_7).toNat * 3)).off + 2, none⟩ = some (.int .i64 ((rd_T43 ((rd_T46 l0 x15_3).f1) x20_7).f2))) (ds := [12]) #[F,F,F,F,F,F,F,F,F,F,F,F,F] (by kernel_rfl) rfl rfl ⟨(nC HB.out hw350_0 :), (nC HB.out hw350_1 :), (nC HB.out hw350_2 :), (nC HB.out hw351_0 :), (nC HB.out hw351_1 :), (nC HB.out hw351_2 :)⟩ (fun hHeld => ?_); refine with_tabW spec_l12Reach.tab28 spec_l12Reach.bits28 (fun HT_ HW_ => ?_)
                             generalize wr.drew = w40 at HO_11 HO_14 HB GG38 HQ41 hf38_0 hx349_0 hx350_0 hx350_1 hx350_2 hx351_0 hx351_1 hx351_2 hx38_0 hHeld ⊢
                             refine qU 0 (some 114) rfl rfl HT_.out ?_
                             refine qU 1 (some 115) rfl rfl HT_.out ?_
                             refine qU 2 (some 116) rfl rfl HT_.out ?_
                             refine qU 3 (some 117) rfl rfl HT_.out ?_
                             refine qU 4 (some 118) rfl rfl HT_.out ?_
                             refine qU 6 (some 120) rfl rfl HT_.out ?_
                             refine qU 7 (some 121) rfl rfl HT_.out ?_
                             refine qU 8 (some 122) rfl rfl HT_.out ?_
                             refine qU 9 (some 123) rfl rfl HT_.out ?_
                             refine qT6 5 (some 119) rfl rfl HT_.out HW_.out hHeld ?_
                             refine qT6 10 (some 124) rfl rfl HT_.out HW_.out hHeld ?_
                             refine qU 11 (some 125) rfl rfl HT_.out ?_
                             refine last_ (i := 12) (N := none) #[T,T,T,T,T,T,T,T,T,T,T,T,T] rfl rfl (one_of HT_.out (by kernel_rfl)) (by decide) (fun K hK => ?_)
                             refine skip_ (w1 := ?_) (by rfl) rfl ?_ ?_
                             rotate_left
                             · go_simp; rfl
                             refine hK.out _ _ ?_
                             clear hK K
                             refine done_ (done_of HT_.out (by kernel_rfl)) ?_
                             try go_wp2
                             go_roundg k7
                             case measure => have := HK1.out; have := HK2.out; have := HK3.out; have := HK4.out; have := HJ25.out; have := HJ27.out; have := HK7.out; omega
                             case rel => exact ⟨(y352), (wrap64 (x20_7 + 1)), nS, H', ⟨by have := HK1.out; have := HK2.out; have := HK3.out; have := HK4.out; have := HJ25.out; have := HJ27.out; have := HK7.out; omega⟩, ⟨by (with_reducible repeat (first | apply Kd.R_alloc | apply Kd.R_drewN | apply Kd.R_drew)); exact Kd.R_mono (Kd.R_far (p := ⟨go38, (((rd_T43 ((rd_T46 l0 x15_3).f1) x20_7).f0) : Int).toNat, none⟩) (Kd.R_mono HO_11.out (fun k_ hk => (⟨hk, fun e_ => hk (by rw [e_]; rfl)⟩ : _ ∧ k_ ≠ go38))) (fun _ hk => hk.2) (.int .i64 ((rd_T43 ((rd_T46 l0 x15_3).f1) x20_7).f1))) (fun _ hk => hk.1)⟩, ⟨by exact nR HQ41.out⟩, ⟨nH1 HB.out GB38.out⟩⟩
                           · rw [if_neg c37] at H
                             have c37b0 : decide ((rd x14_7 ((rd_T43 ((rd_T46 l0 x15_3).f1) x20_7).f0)) < 0) = false := decide_eq_false c37
                             clear c37
                             by_cases c42 : ((rd_T43 ((rd_T46 l0 x15_3).f1) x20_7).f1) < (rd x14_7 ((rd_T43 ((rd_T46 l0 x15_3).f1) x20_7).f0))
                             · rw [if_pos c42] at H
                               have c42b0 : decide (((rd_T43 ((rd_T46 l0 x15_3).f1) x20_7).f1) < (rd x14_7 ((rd_T43 ((rd_T46 l0 x15_3).f1) x20_7).f0))) = true := decide_eq_true c42
                               clear c42
                               obtain ⟨y356, hy356⟩ : ∃ y_ : List Int, y_ = (x14_7.set (((rd_T43 ((rd_T46 l0 x15_3).f1) x20_7).f0) : Int).toNat ((rd_T43 ((rd_T46 l0 x15_3).f1) x20_7).f1)) := ⟨_, rfl⟩
                               replace H : (spec_l12Reach.l4 k7 l0 a1 a3 a4 x11_2 x13_2 y356 x15_3 ((rd_T46 l0 x15_3).f1) x17_4 (wrap64 (x20_7 + 1))) = some r := by first | (rw [hy356]; with_reducible exact H) | (have H2_ := (Option.bind_some _ _).symm.trans H; rw [hy356]; with_reducible exact H2_) | (have H2_ := (Option.bind_some _ _).symm.trans H; with_reducible exact H2_) | with_reducible exact H | (rw [hy356]; exact H) | exact H
                               have Ny356 := aM hy356
                               clear hy356
                               have H' := aM H
                               clear H
                               have p348 : 0 ≤ (x20_7 : Int) := of_decide_eq_true nQ
                               have q348 : x20_7 < (((rd_T46 l0 x15_3).f1).length : Int) := of_decide_eq_true nQ
                               obtain ⟨ad348, e348, hx348_0, hx348_1, hx348_2⟩ := at_T43 HR343_1.out x20_7 p348 q348
                               obtain rfl : ad344 = ad348 := (by injection e348)
                               replace hx348_0 := (HB.out.cell (World.block_lt_of_cell? w _ hx348_0)).trans hx348_0
                               replace hx348_1 := (HB.out.cell (World.block_lt_of_cell? w _ hx348_1)).trans hx348_1
                               replace hx348_2 := (HB.out.cell (World.block_lt_of_cell? w _ hx348_2)).trans hx348_2
                               replace p348 := eq_true p348; replace q348 := eq_true q348
                               obtain ⟨Ao44, co44, eo44⟩ := Kd.R_slice HO_14.out
                               subst eo44
                               have p349 : 0 ≤ (((rd_T43 ((rd_T46 l0 x15_3).f1) x20_7).f0) : Int) := of_decide_eq_true nQ
                               have q349 : ((rd_T43 ((rd_T46 l0 x15_3).f1) x20_7).f0) < (x14_7.length : Int) := of_decide_eq_true nQ
                               obtain ⟨ad349, e349, hx349_0⟩ := Kd.at_int (Kd.R_reads' HO_14.out).2.2 ((rd_T43 ((rd_T46 l0 x15_3).f1) x20_7).f0) p349 q349
                               cases e349; replace p349 := eq_true p349; replace q349 := eq_true q349
                               have p353 : 0 ≤ (x20_7 : Int) := of_decide_eq_true nQ
                               have q353 : x20_7 < (((rd_T46 l0 x15_3).f1).length : Int) := of_decide_eq_true nQ
                               obtain ⟨ad353, e353, hx353_0, hx353_1, hx353_2⟩ := at_T43 HR343_1.out x20_7 p353 q353
                               obtain rfl : ad344 = ad353 := (by injection e353)
                               replace hx353_0 := (HB.out.cell (World.block_lt_of_cell? w _ hx353_0)).trans hx353_0
                               replace hx353_1 := (HB.out.cell (World.block_lt_of_cell? w _ hx353_1)).trans hx353_1
                               replace hx353_2 := (HB.out.cell (World.block_lt_of_cell? w _ hx353_2)).trans hx353_2
                               replace p353 := eq_true p353; replace q353 := eq_true q353
                               try go_wp2
                               have n_ := aA (Kd.R_drew HO_11.out) <| aA (Kd.R_drew HO_14.out) <| aM (below_drew1 HB.out); clear HO_11 HO_14 HB; obtain ⟨HO_11, HO_14, HB⟩ := n_
                               have p354 : 0 ≤ (x20_7 : Int) := of_decide_eq_true nQ
                               have q354 : x20_7 < (((rd_T46 l0 x15_3).f1).length : Int) := of_decide_eq_true nQ
                               obtain ⟨ad354, e354, hx354_0, hx354_1, hx354_2⟩ := at_T43 HR343_1.out x20_7 p354 q354
                               have hw354_2 := hx354_2; have hw354_1 := hx354_1; have hw354_0 := hx354_0
                               obtain rfl : ad344 = ad354 := (by injection e354)
                               replace hx354_0 := (HB.out.cell (World.block_lt_of_cell? w _ hx354_0)).trans hx354_0
                               replace hx354_1 := (HB.out.cell (World.block_lt_of_cell? w _ hx354_1)).trans hx354_1
                               replace hx354_2 := (HB.out.cell (World.block_lt_of_cell? w _ hx354_2)).trans hx354_2
                               replace p354 := eq_true p354; replace q354 := eq_true q354
                               have p355 : 0 ≤ (x20_7 : Int) := of_decide_eq_true nQ
                               have q355 : x20_7 < (((rd_T46 l0 x15_3).f1).length : Int) := of_decide_eq_true nQ
                               obtain ⟨ad355, e355, hx355_0, hx355_1, hx355_2⟩ := at_T43 HR343_1.out x20_7 p355 q355
                               have hw355_2 := hx355_2; have hw355_1 := hx355_1; have hw355_0 := hx355_0
                               obtain rfl : ad344 = ad355 := (by injection e355)
                               replace hx355_0 := (HB.out.cell (World.block_lt_of_cell? w _ hx355_0)).trans hx355_0
                               replace hx355_1 := (HB.out.cell (World.block_lt_of_cell? w _ hx355_1)).trans hx355_1
                               replace hx355_2 := (HB.out.cell (World.block_lt_of_cell? w _ hx355_2)).trans hx355_2
                               replace p355 := eq_true p355; replace q355 := eq_true q355
                               have p43 : 0 ≤ (((rd_T43 ((rd_T46 l0 x15_3).f1) x20_7).f0) : Int) := of_decide_eq_true nQ
                               have q43 : (((rd_T43 ((rd_T46 l0 x15_3).f1) x20_7).f0) : Int) < ((x14_7.length : Int) : Int) := of_decide_eq_true nQ
                               obtain ⟨go43, co43, eo43, gb43, gl43, cl43, HG43⟩ := Kd.R_form HO_14.out (by omega)
                               (first | cases eo43 | (injection eo43 with ea_ en_ ec_; (first | subst ea_ | (injection ea_ with ea_; subst ea_)); subst ec_; clear en_))
                               have GB43 := aM gb43
                               have GG43 := aM HG43
                               clear gb43 gl43 HG43
                               (first | simp only [add_plain] at hx349_0 | skip)
                               obtain ⟨hx43_0, hf43_0⟩ := Kd.R_celln 0 HO_14.out (((rd_T43 ((rd_T46 l0 x15_3).f1) x20_7).f0) : Int) p43 q43
                               replace p43 := eq_true p43; replace q43 := eq_true q43
                               have HP46 := Kd.R_putn HO_14.out (((rd_T43 ((rd_T46 l0 x15_3).f1) x20_7).f0) : Int) ((rd_T43 ((rd_T46 l0 x15_3).f1) x20_7).f1)
                               rw [← Ny356.out] at HP46
                               have HQ46 := aM HP46
                               clear HP46
                               refine start_ (n := 13) (S := fun w' => w'.cell? (ad344.add ((x20_7).toNat * 3)) = some (.int .i64 ((rd_T43 ((rd_T46 l0 x15_3).f1) x20_7).f0)) ∧ w'.cell? ⟨(ad344.add ((x20_7).toNat * 3)).block, (ad344.add ((x20_7).toNat * 3)).off + 1, none⟩ = some (.int .i64 ((rd_T43 ((rd_T46 l0 x15_3).f1) x20_7).f1)) ∧ w'.cell? ⟨(ad344.add ((x20_7).toNat * 3)).block, (ad344.add ((x20_7).toNat * 3)).off + 2, none⟩ = some (.int .i64 ((rd_T43 ((rd_T46 l0 x15_3).f1) x20_7).f2)) ∧ w'.cell? (ad344.add ((x20_7).toNat * 3)) = some (.int .i64 ((rd_T43 ((rd_T46 l0 x15_3).f1) x20_7).f0)) ∧ w'.cell? ⟨(ad344.add ((x20_7).toNat * 3)).block, (ad344.add ((x20_7).toNat * 3)).off + 1, none⟩ = some (.int .i64 ((rd_T43 ((rd_T46 l0 x15_3).f1) x20_7).f1)) ∧ w'.cell? ⟨(ad344.add ((x20_7).toNat * 3)).block, (ad344.add ((x20_7).toNat * 3)).off + 2, none⟩ = some (.int .i64 ((rd_T43 ((rd_T46 l0 x15_3).f1) x20_7).f2))) (ds := [12]) #[F,F,F,F,F,F,F,F,F,F,F,F,F] (by kernel_rfl) rfl rfl ⟨(nC HB.out hw354_0 :), (nC HB.out hw354_1 :), (nC HB.out hw354_2 :), (nC HB.out hw355_0 :), (nC HB.out hw355_1 :), (nC HB.out hw355_2 :)⟩ (fun hHeld => ?_); refine with_tabW spec_l12Reach.tab28 spec_l12Reach.bits28 (fun HT_ HW_ => ?_)
                               generalize wr.drew = w45 at HO_11 HO_14 HB GG43 HQ46 hf43_0 hx349_0 hx354_0 hx354_1 hx354_2 hx355_0 hx355_1 hx355_2 hx43_0 hHeld ⊢
                               refine qU 0 (some 114) rfl rfl HT_.out ?_
                               refine qU 1 (some 115) rfl rfl HT_.out ?_
                               refine qU 2 (some 116) rfl rfl HT_.out ?_
                               refine qU 3 (some 117) rfl rfl HT_.out ?_
                               refine qU 4 (some 118) rfl rfl HT_.out ?_
                               refine qU 6 (some 120) rfl rfl HT_.out ?_
                               refine qU 7 (some 121) rfl rfl HT_.out ?_
                               refine qU 8 (some 122) rfl rfl HT_.out ?_
                               refine qU 9 (some 123) rfl rfl HT_.out ?_
                               refine qT6 5 (some 119) rfl rfl HT_.out HW_.out hHeld ?_
                               refine qT6 10 (some 124) rfl rfl HT_.out HW_.out hHeld ?_
                               refine qU 11 (some 125) rfl rfl HT_.out ?_
                               refine last_ (i := 12) (N := none) #[T,T,T,T,T,T,T,T,T,T,T,T,T] rfl rfl (one_of HT_.out (by kernel_rfl)) (by decide) (fun K hK => ?_)
                               refine skip_ (w1 := ?_) (by rfl) rfl ?_ ?_
                               rotate_left
                               · go_simp; rfl
                               refine hK.out _ _ ?_
                               clear hK K
                               refine done_ (done_of HT_.out (by kernel_rfl)) ?_
                               try go_wp2
                               go_roundg k7
                               case measure => have := HK1.out; have := HK2.out; have := HK3.out; have := HK4.out; have := HJ25.out; have := HJ27.out; have := HK7.out; omega
                               case rel => exact ⟨(y356), (wrap64 (x20_7 + 1)), nS, H', ⟨by have := HK1.out; have := HK2.out; have := HK3.out; have := HK4.out; have := HJ25.out; have := HJ27.out; have := HK7.out; omega⟩, ⟨by (with_reducible repeat (first | apply Kd.R_alloc | apply Kd.R_drewN | apply Kd.R_drew)); exact Kd.R_mono (Kd.R_far (p := ⟨go43, (((rd_T43 ((rd_T46 l0 x15_3).f1) x20_7).f0) : Int).toNat, none⟩) (Kd.R_mono HO_11.out (fun k_ hk => (⟨hk, fun e_ => hk (by rw [e_]; rfl)⟩ : _ ∧ k_ ≠ go43))) (fun _ hk => hk.2) (.int .i64 ((rd_T43 ((rd_T46 l0 x15_3).f1) x20_7).f1))) (fun _ hk => hk.1)⟩, ⟨by exact nR HQ46.out⟩, ⟨nH1 HB.out GB43.out⟩⟩
                             · rw [if_neg c42] at H
                               have c42b0 : decide (((rd_T43 ((rd_T46 l0 x15_3).f1) x20_7).f1) < (rd x14_7 ((rd_T43 ((rd_T46 l0 x15_3).f1) x20_7).f0))) = false := decide_eq_false c42
                               clear c42
                               have H' := aM H
                               clear H
                               have p348 : 0 ≤ (x20_7 : Int) := of_decide_eq_true nQ
                               have q348 : x20_7 < (((rd_T46 l0 x15_3).f1).length : Int) := of_decide_eq_true nQ
                               obtain ⟨ad348, e348, hx348_0, hx348_1, hx348_2⟩ := at_T43 HR343_1.out x20_7 p348 q348
                               obtain rfl : ad344 = ad348 := (by injection e348)
                               replace hx348_0 := (HB.out.cell (World.block_lt_of_cell? w _ hx348_0)).trans hx348_0
                               replace hx348_1 := (HB.out.cell (World.block_lt_of_cell? w _ hx348_1)).trans hx348_1
                               replace hx348_2 := (HB.out.cell (World.block_lt_of_cell? w _ hx348_2)).trans hx348_2
                               replace p348 := eq_true p348; replace q348 := eq_true q348
                               obtain ⟨Ao47, co47, eo47⟩ := Kd.R_slice HO_14.out
                               subst eo47
                               have p349 : 0 ≤ (((rd_T43 ((rd_T46 l0 x15_3).f1) x20_7).f0) : Int) := of_decide_eq_true nQ
                               have q349 : ((rd_T43 ((rd_T46 l0 x15_3).f1) x20_7).f0) < (x14_7.length : Int) := of_decide_eq_true nQ
                               obtain ⟨ad349, e349, hx349_0⟩ := Kd.at_int (Kd.R_reads' HO_14.out).2.2 ((rd_T43 ((rd_T46 l0 x15_3).f1) x20_7).f0) p349 q349
                               cases e349; replace p349 := eq_true p349; replace q349 := eq_true q349
                               have p353 : 0 ≤ (x20_7 : Int) := of_decide_eq_true nQ
                               have q353 : x20_7 < (((rd_T46 l0 x15_3).f1).length : Int) := of_decide_eq_true nQ
                               obtain ⟨ad353, e353, hx353_0, hx353_1, hx353_2⟩ := at_T43 HR343_1.out x20_7 p353 q353
                               obtain rfl : ad344 = ad353 := (by injection e353)
                               replace hx353_0 := (HB.out.cell (World.block_lt_of_cell? w _ hx353_0)).trans hx353_0
                               replace hx353_1 := (HB.out.cell (World.block_lt_of_cell? w _ hx353_1)).trans hx353_1
                               replace hx353_2 := (HB.out.cell (World.block_lt_of_cell? w _ hx353_2)).trans hx353_2
                               replace p353 := eq_true p353; replace q353 := eq_true q353; go_wp2
                               go_roundg k7
                               case measure => have := HK1.out; have := HK2.out; have := HK3.out; have := HK4.out; have := HJ25.out; have := HJ27.out; have := HK7.out; omega
                               case rel => exact ⟨(x14_7), (wrap64 (x20_7 + 1)), nS, H', ⟨by have := HK1.out; have := HK2.out; have := HK3.out; have := HK4.out; have := HJ25.out; have := HJ27.out; have := HK7.out; omega⟩, ⟨by exact nR HO_11.out⟩, ⟨by exact nR HO_14.out⟩, ⟨nH HB.out⟩⟩
                         · rw [if_neg c33] at H
                           have c33b0 : decide (x20_7 < (((rd_T46 l0 x15_3).f1).length : Int)) = false := decide_eq_false c33
                           clear c33
                           have H' := aM H
                           clear H; go_wp2
                           go_roundg k7
                           case measure => have := HK1.out; have := HK2.out; have := HK3.out; have := HK4.out; have := HJ25.out; have := HJ27.out; have := HK7.out; omega
                           case rel => exact ⟨(x14_7), (wrap64 (x17_4 + 1)), nS, H', ⟨by have := HK1.out; have := HK2.out; have := HK3.out; have := HK4.out; have := HJ25.out; have := HJ27.out; have := HK7.out; omega⟩, ⟨by exact nR HO_11.out⟩, ⟨by exact nR HO_14.out⟩, ⟨nH HB.out⟩⟩
               · rw [if_neg c22] at H
                 have c22b0 : decide (x17_4 < (((rd_T46 l0 x15_3).f1).length : Int)) = false := decide_eq_false c22
                 clear c22
                 have H' := aM H
                 clear H; go_wp2
                 go_roundg k4
                 case measure => have := HK1.out; have := HK2.out; have := HK3.out; have := HK4.out; omega
                 case rel => exact ⟨(x14_4), (wrap64 (x15_3 + 1)), nS, H', ⟨by have := HK1.out; have := HK2.out; have := HK3.out; have := HK4.out; omega⟩, ⟨by exact nR HO_11.out⟩, ⟨by exact nR HO_14.out⟩, ⟨nH HB.out⟩⟩
           · rw [if_neg c20] at H
             have c20b0 : decide (x15_3 < (l0.length : Int)) = false := decide_eq_false c20
             clear c20
             have H' := aM H
             clear H; go_wp2
             go_roundg k3
             case measure => have := HK1.out; have := HK2.out; have := HK3.out; omega
             case rel => exact ⟨(x14_3), (wrap64 (x13_2 + 1)), nS, H', ⟨by have := HK1.out; have := HK2.out; have := HK3.out; omega⟩, ⟨by (with_reducible repeat (first | apply Kd.R_alloc | apply Kd.R_drewN | apply Kd.R_drew)); exact Kd.R_mono HO_14.out (fun _ hk => trivial)⟩, ⟨nH HB.out⟩⟩
       · rw [if_neg c16] at H
         have c16b0 : decide (x13_2 < a4) = false := decide_eq_false c16
         clear c16; obtain rfl := Option.some.inj H; go_wp2; go_ret
         exact ⟨_, by first | rfl | (simp [errW_none, errW_some] <;> rfl) | (simp [*, errW_none, errW_some] <;> first | rfl | (simp [wrap64]; done)), by exact nR HO_11.out, nH HB.out⟩
end Go.Proofs.YtdpjoblnjjkbfaaDoor.P

/- Contracts of the functions of the program, each one with its plain Lean function; written by a program of the session out of the translation. -/
import Derived.Test.YtklikbjlfaednaaNe
import Derived.Test.YtklikbjlfaednaaNb
import Derived.Test.YtklikbjlfaednaaPx0
namespace Go.Proofs.Ytklikbjlfaednaa.P
open Go.RowKit Go.Proofs.YtklikbjlfaednaaW.PrintWords Go.Proofs.YtklikbjlfaednaaW.PrintLast Go.Proofs.YtklikbjlfaednaaW.PrintMore
attribute [local go_sem] max2_int min2_int max_two min_two max_three min_three max_four min_four   -- for this text's walks alone
set_option linter.unusedVariables false
set_option linter.unusedSimpArgs false
/-! ### impl_cloneTrain: function 60 -/
set_option maxHeartbeats 8000000 in
set_option maxRecDepth 100000 in
theorem impl_cloneTrain.calls (a0_0 : Int) (a0_1 : Int) (A0_2 : Option Addr) (c0_2 : Nat) (l0_2 : List (S66)) (r1 : Int) (r2 : Int) (r3 : List (S66)) (w : World) (hr0_2 : Kd.C k66 w A0_2 l0_2.length l0_2) (hc0_2 : l0_2.length ≤ c0_2) (h : impl_cloneTrain.f a0_0 a0_1 l0_2 = some (r1, r2, r3)) :
 Calls Try.prog 60 #[.agg #[.int .i64 a0_0, .int .i64 a0_1, .slice A0_2 l0_2.length c0_2]] w fun e w' => ∃ v2_ : Value, e = .returned (.agg #[.int .i64 r1, .int .i64 r2, v2_]) ∧ Kd.R k66 66 w' w.heap.size (fun _ => True) v2_ r3 ∧ Below w.heap.size w w' := by
 have hu29 := Try.underlying29
 have HR0_2 := aM hr0_2
 have HC0_2 := aM hc0_2
 clear hr0_2 hc0_2
 have HB := aM (Below.refl w.heap.size w)
 have H : ((some (([] : List (S66)) : List (S66))).bind fun y149 => (if y149.length + l0_2.length < 4398046511104 then (some (a0_0, a0_1, (y149 ++ l0_2))) else (none))) = some (r1, r2, r3) := h
 clear h
 obtain ⟨y149, hy149⟩ : ∃ y_ : List (S66), y_ = (([] : List (S66))) := ⟨_, rfl⟩
 replace H : (if y149.length + l0_2.length < 4398046511104 then (some (a0_0, a0_1, (y149 ++ l0_2))) else (none)) = some (r1, r2, r3) := by first | (rw [hy149]; with_reducible exact H) | (have H2_ := (Option.bind_some _ _).symm.trans H; rw [hy149]; with_reducible exact H2_) | (have H2_ := (Option.bind_some _ _).symm.trans H; with_reducible exact H2_) | with_reducible exact H | (rw [hy149]; exact H) | exact H
 have Ny149 := aM hy149
 clear hy149
 by_cases c2 : y149.length + l0_2.length < 4398046511104
 rotate_left
 · (rw [if_neg c2] at H; exact absurd H (by simp))
 rw [if_pos c2] at H
 have LMc2 := aM c2
 clear c2
 obtain ⟨y152, hy152⟩ : ∃ y_ : List (S66), y_ = (y149 ++ l0_2) := ⟨_, rfl⟩
 replace H : (some (a0_0, a0_1, y152)) = some (r1, r2, r3) := by first | (rw [hy152]; with_reducible exact H) | (have H2_ := (Option.bind_some _ _).symm.trans H; rw [hy152]; with_reducible exact H2_) | (have H2_ := (Option.bind_some _ _).symm.trans H; with_reducible exact H2_) | with_reducible exact H | (rw [hy152]; exact H) | exact H
 have Ny152 := aM hy152
 clear hy152
 simp only [Option.some.injEq, Prod.mk.injEq] at H
 obtain ⟨rfl, rfl, rfl⟩ := H
 go_enter Try.func60, Try.ntmps60
 go_wp2_with (first | (refine nBx 1 rfl #[.int .i64 a0_0, .int .i64 a0_1, .slice A0_2 l0_2.length c0_2] 29 ?_; intro gb147 hg w3 hbox hb; have n_ := aA (below_step (nH HB.out) hb) <| aA (hbox) <| aA (bS hg (nH HB.out)) <| aM (bS hg (nH HB.out)); clear HB; obtain ⟨HB, BK147, GW147, GE147⟩ := n_; clear hb hbox hg) | (refine nBx 2 rfl #[.int .i64 0, .int .i64 0, .slice none 0 0] 29 ?_; intro gb148 hg w4 hbox hb; have n_ := aA (nBB BK147.out hb) <| aA (below_step (nH1 HB.out GE147.out) hb) <| aA (hbox) <| aA (bS hg (nH1 HB.out GE147.out)) <| aA (bS hg (nH1 HB.out GE147.out)) <| aA (nBL BK147.out hg) <| aM (by rw [hg]; exact Nat.ne_of_gt (blk_lt (g := gb147) (o := .cells #[.int .i64 a0_0, .int .i64 a0_1, .slice A0_2 l0_2.length c0_2] 29 (0, 0)) (nB BK147.out)) : gb148 ≠ gb147); clear BK147 HB; obtain ⟨BK147, HB, BK148, GW148, GE148, NB147_148, NB148_147⟩ := n_; clear hb hbox hg) | ((with_reducible refine gate_dst (N := 3) rfl ?_); refine Kd.R_lit k66 _ 66 ?hg (N := 3) ?hd (xs := ([] : List (S66))) (inner := []) (ok := fun _ => True) (okp := fun _ => True) ?hr ?hp (fun _ hk => hk) trivial (Below.refl _ _) (Nat.le_refl _) (by simp) ?_; (case hd => rfl); (case hg => rfl); (case hr => first | (go_simp; done) | (go_simp; rfl)); (case hp => exact (Reps.none _ _)); intro v150 w5 ho6 hb hg_ hnew_; clear hg_ hnew_; (first | rw [← Ny149.out] at ho6 | (simp only [Int.reduceToNat] at ho6; rw [← Ny149.out] at ho6)); have n_ := aA (Kd.R_lower ho6 (below_size (nH2 HB.out GE147.out GE148.out))) <| aA (nBB BK147.out hb) <| aA (nBB BK148.out hb) <| aM (below_step (nH2 HB.out GE147.out GE148.out) hb); clear BK147 BK148 HB; obtain ⟨HO151, BK147, BK148, HB⟩ := n_; clear hb ho6; have hnb7 := NB147_148.out; have hnc7 := NB148_147.out; obtain ⟨hcz8_0, hcz8_1, hcz8_2, hfz8_0, hfz8_1, hfz8_2⟩ := nK3 BK147.out) | ((with_reducible refine gate_builtin (b := .append) (xs := #[.tmp 3, .tmp 5]) rfl ?_); at_builtin; refine Kd.R_append_rows k66 (w0 := w) w.heap.size rfl (.tmp 3) (.tmp 5) 27 66 (.agg #[(.int .i64 0), (.int .i64 0), (.int .i64 0), (.int .i64 0)]) 32 rfl Try.underlying27 info66 rfl (by decide) (by omega) v150 y149 l0_2 _ _ _ (fun _ => True) (fun _ => False) rfl rfl ?aO ?aR (fun _ _ h => h) (fun _ h => h.elim) ?aF ?aB ?aS ?aL ?_; (case aR => repeat (first | exact (Kd.C_below HR0_2.out HB.out) | (with_reducible refine Kd.C_alloc ?_ _) | (with_reducible refine Kd.C_drewN ?_ _) | (with_reducible refine Kd.C_drew ?_))); (case aB => exact (nH2 HB.out GE147.out GE148.out)); (case aF => exact (fun _ _ => trivial)); (case aO => exact (nR HO151.out)); (case aS => exact (below_size (nH2 HB.out GE147.out GE148.out))); (case aL => have := LMc2.out; omega); intro v153 w9 ho hb hg hat; rw [← Ny152.out] at ho; have n_ := aA (blk_grown (g := gb147) (o := .cells #[.int .i64 a0_0, .int .i64 a0_1, .slice A0_2 l0_2.length c0_2] 29 (0, 0)) (nB BK147.out) hg (Kd.R_ne HO151.out BK147.out (by decide))) <| aA (blk_grown (g := gb148) (o := .cells #[.int .i64 0, .int .i64 0, .slice none 0 0] 29 (0, 0)) (nB BK148.out) hg (Kd.R_ne HO151.out BK148.out (by decide))) <| aA (hb) <| aM (ho); clear BK147 BK148 HB HO151; obtain ⟨BK147, BK148, HB, HO154⟩ := n_; clear ho hb hg hat; obtain ⟨Ao10, co10, eo10⟩ := Kd.R_slice HO154.out; subst eo10; obtain ⟨hcz11_0, hcz11_1, hcz11_2, hfz11_0, hfz11_1, hfz11_2⟩ := nK3 BK147.out; obtain ⟨hcz12_0, hcz12_1, hcz12_2, hfz12_0, hfz12_1, hfz12_2⟩ := nK3 BK148.out))
 refine bodyPost_ret (results_cell_row rfl _ _ gb148 29 #[.int .i64 a0_0, .int .i64 a0_1, .slice Ao10 y152.length co10] (0, 0) _ rfl (by refine nE ?_; refine blk_put (cs := #[.int .i64 a0_0, .int .i64 a0_1, .slice none 0 0]) ?_ 2 _ rfl; refine nE ?_; refine blk_put (cs := #[.int .i64 a0_0, .int .i64 0, .slice none 0 0]) ?_ 1 _ rfl; refine nE ?_; refine blk_put (cs := #[.int .i64 0, .int .i64 0, .slice none 0 0]) ?_ 0 _ rfl; refine nE ?_; refine blk_far ?_ NB148_147.out _; refine nE ?_; exact BK148.out) Try.underlying29 rfl (by kernel_rfl)) rfl ?_
 exact ⟨_, by first | rfl | (simp [errW_none, errW_some] <;> rfl) | (simp [*, errW_none, errW_some] <;> first | rfl | (simp [wrap64]; done)), by (with_reducible repeat (first | apply Kd.R_alloc | apply Kd.R_drewN | apply Kd.R_drew)); exact Kd.R_mono (Kd.R_far (p := ⟨gb148, 2, none⟩) (Kd.R_far (p := ⟨gb148, 1, none⟩) (Kd.R_far (p := ⟨gb148, 0, none⟩) (Kd.R_far (p := ⟨gb147, 2, none⟩) (Kd.R_types (Kd.R_types HO154.out BK147.out (by decide)) BK148.out (by decide)) (fun _ hk => hk.1.2) (.slice Ao10 y152.length co10)) (fun _ hk => hk.2) (.int .i64 a0_0)) (fun _ hk => hk.2) (.int .i64 a0_1)) (fun _ hk => hk.2) (.slice Ao10 y152.length co10)) (fun _ hk => trivial), nH2 HB.out GE147.out GE148.out⟩
/-! ### impl_Booking_80: function 80, by hand: behind -/
end Go.Proofs.Ytklikbjlfaednaa.P

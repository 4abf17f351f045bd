/- Contracts of the functions of the program, each one with its plain Lean function; written by a program of the session out of the translation. -/
import Derived.Test.YtklikbjlfaednaaNe
import Derived.Test.YtklikbjlfaednaaNb
import Derived.Test.YtklikbjlfaednaaPx0
import Derived.Test.YtklikbjlfaednaaPx27
import Derived.Test.YtklikbjlfaednaaPx28
import Derived.Test.YtklikbjlfaednaaPx29
namespace Go.Proofs.Ytklikbjlfaednaa.P
open Go.RowKit Go.Proofs.YtklikbjlfaednaaW.PrintWords Go.Proofs.YtklikbjlfaednaaW.PrintLast Go.Proofs.YtklikbjlfaednaaW.PrintMore
attribute [local go_sem] max2_int min2_int max_two min_two max_three min_three max_four min_four   -- for this text's walks alone
set_option linter.unusedVariables false
set_option linter.unusedSimpArgs false
/-! ### spec_Unbook: function 27 -/
theorem spec_Unbook.mono_l : ∀ k, (∀ y0 y1 y2 y3 y4, LeO (spec_Unbook.l0 k y0 y1 y2 y3 y4) (spec_Unbook.l0 (k + 1) y0 y1 y2 y3 y4))
 | 0 => fun _ _ _ _ _ r h => by simp [spec_Unbook.l0] at h
 | k + 1 => by
  have ih0 := spec_Unbook.mono_l k
  · intro y0 y1 y2 y3 y4
    unfold spec_Unbook.l0
    repeat' first
    | (with_reducible exact ih0 _ _ _ _ _)
    | (with_reducible exact spec_TrainOk.mono _ _ _ _)
    | (with_reducible exact spec_l14Held.mono _ _ _ _ _ _ _ _ _)
    | (with_reducible exact spec_l14Same.mono _ _ _ _)
    | (with_reducible exact LeO.refl _)
    | (with_reducible exact LeO.none _)
    | (with_reducible refine LeO.ite ?_ ?_)
    | (with_reducible refine LeO.bind ?_ (fun _ => ?_))
    | exact ih0 _ _ _ _ _
    | exact spec_TrainOk.mono _ _ _ _
    | exact spec_l14Held.mono _ _ _ _ _ _ _ _ _
    | exact spec_l14Same.mono _ _ _ _
    | exact LeO.none _
    | refine LeO.ite ?_ ?_
    | refine LeO.bind ?_ (fun _ => ?_)
theorem spec_Unbook.mono : ∀ a0 a1 a2 a3 k, LeO (spec_Unbook.f k a0 a1 a2 a3) (spec_Unbook.f (k + 1) a0 a1 a2 a3) := by
 intro a0 a1 a2 a3 k
 have ih0 := spec_Unbook.mono_l k
 unfold spec_Unbook.f
 repeat' first
  | (with_reducible exact ih0 _ _ _ _ _)
  | (with_reducible exact spec_TrainOk.mono _ _ _ _)
  | (with_reducible exact spec_l14Held.mono _ _ _ _ _ _ _ _ _)
  | (with_reducible exact spec_l14Same.mono _ _ _ _)
  | (with_reducible exact LeO.refl _)
  | (with_reducible exact LeO.none _)
  | (with_reducible refine LeO.ite ?_ ?_)
  | (with_reducible refine LeO.bind ?_ (fun _ => ?_))
  | exact ih0 _ _ _ _ _
  | exact spec_TrainOk.mono _ _ _ _
  | exact spec_l14Held.mono _ _ _ _ _ _ _ _ _
  | exact spec_l14Same.mono _ _ _ _
  | exact LeO.none _
  | refine LeO.ite ?_ ?_
  | refine LeO.bind ?_ (fun _ => ?_)
set_option maxHeartbeats 8000000 in
set_option maxRecDepth 100000 in
theorem spec_Unbook.calls (k : Nat) (a0_0 : Int) (a0_1 : Int) (A0_2 : Option Addr) (c0_2 : Nat) (l0_2 : List (S66)) (a1 : Int) (r1 : Int) (r2 : Int) (r3 : List (S66)) (r4 : Bool) (w : World) (hr0_2 : Kd.C k66 w A0_2 l0_2.length l0_2) (hc0_2 : l0_2.length ≤ c0_2) (h : spec_Unbook.f k a0_0 a0_1 l0_2 a1 = some (r1, r2, r3, r4)) :
 Calls Try.prog 27 #[.agg #[.int .i64 a0_0, .int .i64 a0_1, .slice A0_2 l0_2.length c0_2], .int .i64 a1] w fun e w' => ∃ v2_ : Value, e = .returned (.tuple #[.agg #[.int .i64 r1, .int .i64 r2, v2_], .bool r4]) ∧ Kd.R k66 66 w' w.heap.size (fun _ => True) v2_ r3 ∧ Below w.heap.size w w' := by
 have hu29 := Try.underlying29; have hu66 := Try.underlying66
 have HR0_2 := aM hr0_2
 have HC0_2 := aM hc0_2
 clear hr0_2 hc0_2
 have HB := aM (Below.refl w.heap.size w)
 have H : ((spec_TrainOk.f k a0_0 a0_1 l0_2).bind fun t209 => (if t209 = true then (spec_Unbook.l0 k a1 0 a0_0 a0_1 l0_2) else ((spec_l14Same.f k a0_0 a0_1 l0_2).bind fun bt210 => (some (bt210.1, bt210.2.1, bt210.2.2, false))))) = some (r1, r2, r3, r4) := h
 clear h
 obtain ⟨t209, A30, H⟩ := Option.bind_eq_some_iff.mp H
 have A3 := aM A30
 clear A30
 by_cases c4 : t209 = true
 · subst c4
   rw [if_pos rfl] at H
   have H' := aM H
   clear H
   go_enter Try.func27, Try.ntmps27
   go_wp2_with (first | (refine nBx 2 rfl #[.int .i64 a0_0, .int .i64 a0_1, .slice A0_2 l0_2.length c0_2] 29 ?_; intro gb207 hg w5 hbox hb; have n_ := aA (below_step (nH HB.out) hb) <| aA (hbox) <| aA (bS hg (nH HB.out)) <| aM (bS hg (nH HB.out)); clear HB; obtain ⟨HB, BK207, GW207, GE207⟩ := n_; clear hb hbox hg) | (refine nBx 4 rfl #[.int .i64 0, .int .i64 0, .slice none 0 0] 29 ?_; intro gb208 hg w6 hbox hb; have n_ := aA (nBB BK207.out hb) <| aA (below_step (nH1 HB.out GE207.out) hb) <| aA (hbox) <| aA (bS hg (nH1 HB.out GE207.out)) <| aA (bS hg (nH1 HB.out GE207.out)) <| aA (nBL BK207.out hg) <| aM (by rw [hg]; exact Nat.ne_of_gt (blk_lt (g := gb207) (o := .cells #[.int .i64 a0_0, .int .i64 a0_1, .slice A0_2 l0_2.length c0_2] 29 (0, 0)) (nB BK207.out)) : gb208 ≠ gb207); clear BK207 HB; obtain ⟨BK207, HB, BK208, GW208, GE208, NB207_208, NB208_207⟩ := n_; clear hb hbox hg; have hnb7 := NB207_208.out; have hnc7 := NB208_207.out; obtain ⟨hcz8_0, hcz8_1, hcz8_2, hfz8_0, hfz8_1, hfz8_2⟩ := nK3 BK207.out) | ((with_reducible refine gate_callee (f := 13) rfl ?_); refine goesL_ (some 8) rfl rfl Try.func13 (by kernel_rfl) rfl #[.agg #[.int .i64 a0_0, .int .i64 a0_1, .slice A0_2 l0_2.length c0_2]] rfl (by (try simp only [List.map_toArray, List.map_cons, List.map_nil]); first | done | rfl | (simp only [List.length_drop, List.length_take]; rfl)) ?_; (with_reducible refine (spec_TrainOk.calls k a0_0 a0_1 _ _ l0_2 true _ ?side1 ?side2 A3.out).mono ?_); (case side1 => repeat (first | exact (Kd.C_below HR0_2.out HB.out) | (with_reducible refine Kd.C_alloc ?_ _) | (with_reducible refine Kd.C_drewN ?_ _) | (with_reducible refine Kd.C_drew ?_))); (case side2 => exact HC0_2.out); rintro e w9 ⟨rfl, hb⟩; refine ⟨_, rfl, ?_⟩; have n_ := aA (nBB BK207.out hb) <| aA (nBB BK208.out hb) <| aM (below_step (nH2 HB.out GE207.out GE208.out) hb); clear BK207 BK208 HB; obtain ⟨BK207, BK208, HB⟩ := n_; (try clear hb); (try clear hb2); (try clear hk); (try clear hi)))
   go_loopg [6] k (fun kq v6 w' => ∃ (x6_1 : Int) (x209000_1 : Int) (x209001_1 : Int), v6 = .int .i64 x6_1 ∧ Aside0 (spec_Unbook.l0 kq a1 x6_1 a0_0 a0_1 l0_2 = some (r1, r2, r3, r4)) ∧ Aside0 (kq ≤ k) ∧ Aside0 (w'.heap[gb207]? = some (.cells #[.int .i64 a0_0, .int .i64 a0_1, (.slice A0_2 l0_2.length c0_2)] 29 (0, 0))) ∧ Aside0 (w'.heap[gb208]? = some (.cells #[.int .i64 x209000_1, .int .i64 x209001_1, (.slice none 0 0)] 29 (0, 0))) ∧ Aside0 (Below w.heap.size w w'))
   case atStart => exact ⟨(0), (0), (0), nS, H', ⟨Nat.le_refl _⟩, ⟨by refine nE ?_; exact BK207.out⟩, ⟨by refine nE ?_; exact BK208.out⟩, ⟨nH2 HB.out GE207.out GE208.out⟩⟩
   case round =>
    clear H'
    try clear c1; try clear c2; try clear p2; try clear c4; try clear c7; try clear hcz8_0; try clear hcz8_1; try clear hcz8_2; try clear hfz8_0; try clear hfz8_1; try clear hfz8_2
    obtain ⟨x6_1, x209000_1, x209001_1, rfl, HA, HK1, BK207, BK208, HB⟩ := hrel
    cases gk with
    | zero => exact absurd HA.out (by simp [spec_Unbook.l0])
    | succ k1 =>
     have H := HA.out; clear HA
     simp only [spec_Unbook.l0] at H
     by_cases c10 : x6_1 < (l0_2.length : Int)
     · rw [if_pos c10] at H
       have c10b0 : decide (x6_1 < (l0_2.length : Int)) = true := decide_eq_true c10
       clear c10
       by_cases c11 : 0 ≤ x6_1
       rotate_left
       · (rw [if_neg c11] at H; exact absurd H (by simp))
       rw [if_pos c11] at H
       have c11b0 : decide (0 ≤ x6_1) = true := decide_eq_true c11
       clear c11
       by_cases c12 : ((rd_T66 l0_2 x6_1).f0) = a1
       · rw [if_pos c12] at H
         have c12b0 : (((rd_T66 l0_2 x6_1).f0) == a1) = true := beq_iff_eq.mpr c12
         have c12b1 : (((rd_T66 l0_2 x6_1).f0) != a1) = false := bne_eq_false_iff_eq.mpr c12
         clear c12
         replace H := Option.bind_eq_some_iff.mp H
         obtain ⟨⟨t216, t217, t218⟩, A130, H⟩ := H
         replace H : (some (t216, t217, t218, true)) = some (r1, r2, r3, r4) := H
         have A13 := aM A130
         clear A130
         simp only [Option.some.injEq, Prod.mk.injEq] at H
         obtain ⟨rfl, rfl, rfl, rfl⟩ := H
         have hnb14 := NB207_208.out; have hnc14 := NB208_207.out
         obtain ⟨hcz15_0, hcz15_1, hcz15_2, hfz15_0, hfz15_1, hfz15_2⟩ := nK3 BK207.out
         have p215 : 0 ≤ (x6_1 : Int) := of_decide_eq_true nQ
         have q215 : x6_1 < (l0_2.length : Int) := of_decide_eq_true nQ
         obtain ⟨ad215, e215, hx215_0, hx215_1, hx215_2, hx215_3⟩ := at_T66 HR0_2.out x6_1 p215 q215
         cases e215
         replace hx215_0 := (HB.out.cell (World.block_lt_of_cell? w _ hx215_0)).trans hx215_0
         replace hx215_1 := (HB.out.cell (World.block_lt_of_cell? w _ hx215_1)).trans hx215_1
         replace hx215_2 := (HB.out.cell (World.block_lt_of_cell? w _ hx215_2)).trans hx215_2
         replace hx215_3 := (HB.out.cell (World.block_lt_of_cell? w _ hx215_3)).trans hx215_3
         replace p215 := eq_true p215; replace q215 := eq_true q215
         go_wp2_with (first | ((with_reducible refine gate_callee (f := 59) rfl ?_); refine goesL_ (some 30) rfl rfl Try.func59 (by kernel_rfl) rfl #[.agg #[.int .i64 a0_0, .int .i64 a0_1, .slice (some ad215) l0_2.length c0_2], .int .i64 a1, .agg #[.int .i64 0, .int .i64 0, .int .i64 0, .int .i64 0]] rfl (by (try simp only [List.map_toArray, List.map_cons, List.map_nil]); first | done | rfl | (simp only [List.length_drop, List.length_take]; rfl)) ?_; (with_reducible refine (spec_l14Held.calls k1 a0_0 a0_1 _ _ l0_2 a1 0 0 0 0 t216 t217 t218 _ ?side1 ?side2 A13.out).mono ?_); (case side1 => repeat (first | exact (Kd.C_below HR0_2.out HB.out) | (with_reducible refine Kd.C_alloc ?_ _) | (with_reducible refine Kd.C_drewN ?_ _) | (with_reducible refine Kd.C_drew ?_))); (case side2 => exact HC0_2.out); rintro e w16 ⟨v219, rfl, ho0, hb⟩; refine ⟨_, rfl, ?_⟩; have n_ := aA (Kd.R_lower ho0 (below_size (nH2 HB.out GE207.out GE208.out))) <| aA (nBB BK207.out hb) <| aA (nBB BK208.out hb) <| aM (below_step (nH2 HB.out GE207.out GE208.out) hb); clear BK207 BK208 HB; obtain ⟨HO220, BK207, BK208, HB⟩ := n_; (try clear hb); (try clear hb2); (try clear hk); (try clear hi); (try clear ho0); obtain ⟨hcz17_0, hcz17_1, hcz17_2, hfz17_0, hfz17_1, hfz17_2⟩ := nK3 BK208.out; obtain ⟨Ao18, co18, eo18⟩ := Kd.R_slice HO220.out; subst eo18))
         refine bodyPost_ret (results_ct rfl _ _ gb208 29 #[.int .i64 t216, .int .i64 t217, .slice Ao18 t218.length co18] (0, 0) _ rfl (by refine nE ?_; refine blk_put (cs := #[.int .i64 t216, .int .i64 t217, .slice none 0 0]) ?_ 2 _ rfl; refine nE ?_; refine blk_put (cs := #[.int .i64 t216, .int .i64 x209001_1, .slice none 0 0]) ?_ 1 _ rfl; refine nE ?_; refine blk_put (cs := #[.int .i64 x209000_1, .int .i64 x209001_1, .slice none 0 0]) ?_ 0 _ rfl; refine nE ?_; exact BK208.out) Try.underlying29 rfl (by kernel_rfl)) rfl ?_
         exact ⟨_, by first | rfl | (simp [errW_none, errW_some] <;> rfl) | (simp [*, errW_none, errW_some] <;> first | rfl | (simp [wrap64]; done)), by (with_reducible repeat (first | apply Kd.R_alloc | apply Kd.R_drewN | apply Kd.R_drew)); exact Kd.R_mono (Kd.R_far (p := ⟨gb208, 2, none⟩) (Kd.R_far (p := ⟨gb208, 1, none⟩) (Kd.R_far (p := ⟨gb208, 0, none⟩) (Kd.R_types HO220.out BK208.out (by decide)) (fun _ hk => hk.2) (.int .i64 t216)) (fun _ hk => hk.2) (.int .i64 t217)) (fun _ hk => hk.2) (.slice Ao18 t218.length co18)) (fun _ hk => trivial), nH2 HB.out GE207.out GE208.out⟩
       · rw [if_neg c12] at H
         have c12b0 : (((rd_T66 l0_2 x6_1).f0) == a1) = false := beq_eq_false_iff_ne.mpr c12
         have c12b1 : (((rd_T66 l0_2 x6_1).f0) != a1) = true := bne_iff_ne.mpr c12
         have H' := aM H
         clear H; have hnb19 := NB207_208.out; have hnc19 := NB208_207.out
         obtain ⟨hcz20_0, hcz20_1, hcz20_2, hfz20_0, hfz20_1, hfz20_2⟩ := nK3 BK207.out
         have p215 : 0 ≤ (x6_1 : Int) := of_decide_eq_true nQ
         have q215 : x6_1 < (l0_2.length : Int) := of_decide_eq_true nQ
         obtain ⟨ad215, e215, hx215_0, hx215_1, hx215_2, hx215_3⟩ := at_T66 HR0_2.out x6_1 p215 q215
         cases e215
         replace hx215_0 := (HB.out.cell (World.block_lt_of_cell? w _ hx215_0)).trans hx215_0
         replace hx215_1 := (HB.out.cell (World.block_lt_of_cell? w _ hx215_1)).trans hx215_1
         replace hx215_2 := (HB.out.cell (World.block_lt_of_cell? w _ hx215_2)).trans hx215_2
         replace hx215_3 := (HB.out.cell (World.block_lt_of_cell? w _ hx215_3)).trans hx215_3
         replace p215 := eq_true p215; replace q215 := eq_true q215; go_wp2
         go_roundg k1
         case measure => have := HK1.out; omega
         case rel => exact ⟨(wrap64 (x6_1 + 1)), (x209000_1), (x209001_1), nS, H', ⟨by have := HK1.out; omega⟩, ⟨by refine nE ?_; exact BK207.out⟩, ⟨by refine nE ?_; exact BK208.out⟩, ⟨nH2 HB.out GE207.out GE208.out⟩⟩
     · rw [if_neg c10] at H
       have c10b0 : decide (x6_1 < (l0_2.length : Int)) = false := decide_eq_false c10
       clear c10
       replace H := Option.bind_eq_some_iff.mp H
       obtain ⟨⟨t221, t222, t223⟩, A210, H⟩ := H
       replace H : (some (t221, t222, t223, false)) = some (r1, r2, r3, r4) := H
       have A21 := aM A210
       clear A210
       simp only [Option.some.injEq, Prod.mk.injEq] at H
       obtain ⟨rfl, rfl, rfl, rfl⟩ := H
       have hnb22 := NB207_208.out; have hnc22 := NB208_207.out
       obtain ⟨hcz23_0, hcz23_1, hcz23_2, hfz23_0, hfz23_1, hfz23_2⟩ := nK3 BK207.out
       go_wp2_with (first | ((with_reducible refine gate_callee (f := 58) rfl ?_); refine goesL_ (some 32) rfl rfl Try.func58 (by kernel_rfl) rfl #[.agg #[.int .i64 a0_0, .int .i64 a0_1, .slice A0_2 l0_2.length c0_2]] rfl (by (try simp only [List.map_toArray, List.map_cons, List.map_nil]); first | done | rfl | (simp only [List.length_drop, List.length_take]; rfl)) ?_; (with_reducible refine (spec_l14Same.calls k1 a0_0 a0_1 _ _ l0_2 t221 t222 t223 _ ?side1 ?side2 A21.out).mono ?_); (case side1 => repeat (first | exact (Kd.C_below HR0_2.out HB.out) | (with_reducible refine Kd.C_alloc ?_ _) | (with_reducible refine Kd.C_drewN ?_ _) | (with_reducible refine Kd.C_drew ?_))); (case side2 => exact HC0_2.out); rintro e w24 ⟨v224, rfl, ho0, hb⟩; refine ⟨_, rfl, ?_⟩; have n_ := aA (Kd.R_lower ho0 (below_size (nH2 HB.out GE207.out GE208.out))) <| aA (nBB BK207.out hb) <| aA (nBB BK208.out hb) <| aM (below_step (nH2 HB.out GE207.out GE208.out) hb); clear BK207 BK208 HB; obtain ⟨HO225, BK207, BK208, HB⟩ := n_; (try clear hb); (try clear hb2); (try clear hk); (try clear hi); (try clear ho0); obtain ⟨hcz25_0, hcz25_1, hcz25_2, hfz25_0, hfz25_1, hfz25_2⟩ := nK3 BK208.out; obtain ⟨Ao26, co26, eo26⟩ := Kd.R_slice HO225.out; subst eo26))
       refine bodyPost_ret (results_ct rfl _ _ gb208 29 #[.int .i64 t221, .int .i64 t222, .slice Ao26 t223.length co26] (0, 0) _ rfl (by refine nE ?_; refine blk_put (cs := #[.int .i64 t221, .int .i64 t222, .slice none 0 0]) ?_ 2 _ rfl; refine nE ?_; refine blk_put (cs := #[.int .i64 t221, .int .i64 x209001_1, .slice none 0 0]) ?_ 1 _ rfl; refine nE ?_; refine blk_put (cs := #[.int .i64 x209000_1, .int .i64 x209001_1, .slice none 0 0]) ?_ 0 _ rfl; refine nE ?_; exact BK208.out) Try.underlying29 rfl (by kernel_rfl)) rfl ?_
       exact ⟨_, by first | rfl | (simp [errW_none, errW_some] <;> rfl) | (simp [*, errW_none, errW_some] <;> first | rfl | (simp [wrap64]; done)), by (with_reducible repeat (first | apply Kd.R_alloc | apply Kd.R_drewN | apply Kd.R_drew)); exact Kd.R_mono (Kd.R_far (p := ⟨gb208, 2, none⟩) (Kd.R_far (p := ⟨gb208, 1, none⟩) (Kd.R_far (p := ⟨gb208, 0, none⟩) (Kd.R_types HO225.out BK208.out (by decide)) (fun _ hk => hk.2) (.int .i64 t221)) (fun _ hk => hk.2) (.int .i64 t222)) (fun _ hk => hk.2) (.slice Ao26 t223.length co26)) (fun _ hk => trivial), nH2 HB.out GE207.out GE208.out⟩
 · replace c4 := Bool.eq_false_iff.mpr c4
   subst c4
   rw [if_neg nN] at H
   replace H := Option.bind_eq_some_iff.mp H
   obtain ⟨⟨t210, t211, t212⟩, A270, H⟩ := H
   replace H : (some (t210, t211, t212, false)) = some (r1, r2, r3, r4) := H
   have A27 := aM A270
   clear A270
   simp only [Option.some.injEq, Prod.mk.injEq] at H
   obtain ⟨rfl, rfl, rfl, rfl⟩ := H
   go_enter Try.func27, Try.ntmps27
   go_wp2_with (first | (refine nBx 2 rfl #[.int .i64 a0_0, .int .i64 a0_1, .slice A0_2 l0_2.length c0_2] 29 ?_; intro gb207 hg w28 hbox hb; have n_ := aA (below_step (nH HB.out) hb) <| aA (hbox) <| aA (bS hg (nH HB.out)) <| aM (bS hg (nH HB.out)); clear HB; obtain ⟨HB, BK207, GW207, GE207⟩ := n_; clear hb hbox hg) | (refine nBx 4 rfl #[.int .i64 0, .int .i64 0, .slice none 0 0] 29 ?_; intro gb208 hg w29 hbox hb; have n_ := aA (nBB BK207.out hb) <| aA (below_step (nH1 HB.out GE207.out) hb) <| aA (hbox) <| aA (bS hg (nH1 HB.out GE207.out)) <| aA (bS hg (nH1 HB.out GE207.out)) <| aA (nBL BK207.out hg) <| aM (by rw [hg]; exact Nat.ne_of_gt (blk_lt (g := gb207) (o := .cells #[.int .i64 a0_0, .int .i64 a0_1, .slice A0_2 l0_2.length c0_2] 29 (0, 0)) (nB BK207.out)) : gb208 ≠ gb207); clear BK207 HB; obtain ⟨BK207, HB, BK208, GW208, GE208, NB207_208, NB208_207⟩ := n_; clear hb hbox hg; have hnb30 := NB207_208.out; have hnc30 := NB208_207.out; obtain ⟨hcz31_0, hcz31_1, hcz31_2, hfz31_0, hfz31_1, hfz31_2⟩ := nK3 BK207.out) | ((with_reducible refine gate_callee (f := 13) rfl ?_); refine goesL_ (some 8) rfl rfl Try.func13 (by kernel_rfl) rfl #[.agg #[.int .i64 a0_0, .int .i64 a0_1, .slice A0_2 l0_2.length c0_2]] rfl (by (try simp only [List.map_toArray, List.map_cons, List.map_nil]); first | done | rfl | (simp only [List.length_drop, List.length_take]; rfl)) ?_; (with_reducible refine (spec_TrainOk.calls k a0_0 a0_1 _ _ l0_2 false _ ?side1 ?side2 A3.out).mono ?_); (case side1 => repeat (first | exact (Kd.C_below HR0_2.out HB.out) | (with_reducible refine Kd.C_alloc ?_ _) | (with_reducible refine Kd.C_drewN ?_ _) | (with_reducible refine Kd.C_drew ?_))); (case side2 => exact HC0_2.out); rintro e w32 ⟨rfl, hb⟩; refine ⟨_, rfl, ?_⟩; have n_ := aA (nBB BK207.out hb) <| aA (nBB BK208.out hb) <| aM (below_step (nH2 HB.out GE207.out GE208.out) hb); clear BK207 BK208 HB; obtain ⟨BK207, BK208, HB⟩ := n_; (try clear hb); (try clear hb2); (try clear hk); (try clear hi); obtain ⟨hcz33_0, hcz33_1, hcz33_2, hfz33_0, hfz33_1, hfz33_2⟩ := nK3 BK207.out) | ((with_reducible refine gate_callee (f := 58) rfl ?_); refine goesL_ (some 11) rfl rfl Try.func58 (by kernel_rfl) rfl #[.agg #[.int .i64 a0_0, .int .i64 a0_1, .slice A0_2 l0_2.length c0_2]] rfl (by (try simp only [List.map_toArray, List.map_cons, List.map_nil]); first | done | rfl | (simp only [List.length_drop, List.length_take]; rfl)) ?_; (with_reducible refine (spec_l14Same.calls k a0_0 a0_1 _ _ l0_2 t210 t211 t212 _ ?side1 ?side2 A27.out).mono ?_); (case side1 => repeat (first | exact (Kd.C_below HR0_2.out HB.out) | (with_reducible refine Kd.C_alloc ?_ _) | (with_reducible refine Kd.C_drewN ?_ _) | (with_reducible refine Kd.C_drew ?_))); (case side2 => exact HC0_2.out); rintro e w34 ⟨v213, rfl, ho0, hb⟩; refine ⟨_, rfl, ?_⟩; have n_ := aA (Kd.R_lower ho0 (below_size (nH2 HB.out GE207.out GE208.out))) <| aA (nBB BK207.out hb) <| aA (nBB BK208.out hb) <| aM (below_step (nH2 HB.out GE207.out GE208.out) hb); clear BK207 BK208 HB; obtain ⟨HO214, BK207, BK208, HB⟩ := n_; (try clear hb); (try clear hb2); (try clear hk); (try clear hi); (try clear ho0); obtain ⟨hcz35_0, hcz35_1, hcz35_2, hfz35_0, hfz35_1, hfz35_2⟩ := nK3 BK208.out; obtain ⟨Ao36, co36, eo36⟩ := Kd.R_slice HO214.out; subst eo36))
   refine bodyPost_ret (results_ct rfl _ _ gb208 29 #[.int .i64 t210, .int .i64 t211, .slice Ao36 t212.length co36] (0, 0) _ rfl (by refine nE ?_; refine blk_put (cs := #[.int .i64 t210, .int .i64 t211, .slice none 0 0]) ?_ 2 _ rfl; refine nE ?_; refine blk_put (cs := #[.int .i64 t210, .int .i64 0, .slice none 0 0]) ?_ 1 _ rfl; refine nE ?_; refine blk_put (cs := #[.int .i64 0, .int .i64 0, .slice none 0 0]) ?_ 0 _ rfl; refine nE ?_; exact BK208.out) Try.underlying29 rfl (by kernel_rfl)) rfl ?_
   exact ⟨_, by first | rfl | (simp [errW_none, errW_some] <;> rfl) | (simp [*, errW_none, errW_some] <;> first | rfl | (simp [wrap64]; done)), by (with_reducible repeat (first | apply Kd.R_alloc | apply Kd.R_drewN | apply Kd.R_drew)); exact Kd.R_mono (Kd.R_far (p := ⟨gb208, 2, none⟩) (Kd.R_far (p := ⟨gb208, 1, none⟩) (Kd.R_far (p := ⟨gb208, 0, none⟩) (Kd.R_types HO214.out BK208.out (by decide)) (fun _ hk => hk.2) (.int .i64 t210)) (fun _ hk => hk.2) (.int .i64 t211)) (fun _ hk => hk.2) (.slice Ao36 t212.length co36)) (fun _ hk => trivial), nH2 HB.out GE207.out GE208.out⟩
end Go.Proofs.Ytklikbjlfaednaa.P

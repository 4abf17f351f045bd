/- Contracts of the functions of the program, each one with its plain Lean function; written by a program of the session out of the translation. -/
import Derived.Test.YtklikbjlfaednaaNe
import Derived.Test.YtklikbjlfaednaaNb
import Derived.Test.YtklikbjlfaednaaPx0
import Derived.Test.YtklikbjlfaednaaPx4
namespace Go.Proofs.Ytklikbjlfaednaa.P
open Go.RowKit Go.Proofs.YtklikbjlfaednaaW.PrintWords Go.Proofs.YtklikbjlfaednaaW.PrintLast Go.Proofs.YtklikbjlfaednaaW.PrintMore
attribute [local go_sem] max2_int min2_int max_two min_two max_three min_three max_four min_four   -- for this text's walks alone
set_option linter.unusedVariables false
set_option linter.unusedSimpArgs false
/-! ### laws_eqTrain: function 16 -/
theorem laws_eqTrain.mono : ∀ a0 a1 a2 a3 a4 a5 k, LeO (laws_eqTrain.f k a0 a1 a2 a3 a4 a5) (laws_eqTrain.f (k + 1) a0 a1 a2 a3 a4 a5) := by
 intro a0 a1 a2 a3 a4 a5 k
 unfold laws_eqTrain.f
 repeat' first
  | (with_reducible exact laws_eqBookingS.mono _ _ _)
  | (with_reducible exact LeO.refl _)
  | (with_reducible exact LeO.none _)
  | (with_reducible refine LeO.ite ?_ ?_)
  | (with_reducible refine LeO.bind ?_ (fun _ => ?_))
  | exact laws_eqBookingS.mono _ _ _
  | exact LeO.none _
  | refine LeO.ite ?_ ?_
  | refine LeO.bind ?_ (fun _ => ?_)
set_option maxHeartbeats 8000000 in
set_option maxRecDepth 100000 in
theorem laws_eqTrain.calls (k : Nat) (a0_0 : Int) (a0_1 : Int) (A0_2 : Option Addr) (c0_2 : Nat) (l0_2 : List (S66)) (a1_0 : Int) (a1_1 : Int) (A1_2 : Option Addr) (c1_2 : Nat) (l1_2 : List (S66)) (r : Bool) (w : World) (hr0_2 : Kd.C k66 w A0_2 l0_2.length l0_2) (hc0_2 : l0_2.length ≤ c0_2) (hr1_2 : Kd.C k66 w A1_2 l1_2.length l1_2) (hc1_2 : l1_2.length ≤ c1_2) (h : laws_eqTrain.f k a0_0 a0_1 l0_2 a1_0 a1_1 l1_2 = some r) :
 Calls Try.prog 16 #[.agg #[.int .i64 a0_0, .int .i64 a0_1, .slice A0_2 l0_2.length c0_2], .agg #[.int .i64 a1_0, .int .i64 a1_1, .slice A1_2 l1_2.length c1_2]] w fun e w' => e = .returned (.bool r) ∧ Below w.heap.size w w' := by
 have hu29 := Try.underlying29
 have HR0_2 := aM hr0_2
 have HC0_2 := aM hc0_2
 clear hr0_2 hc0_2
 have HR1_2 := aM hr1_2
 have HC1_2 := aM hc1_2
 clear hr1_2 hc1_2
 have HB := aM (Below.refl w.heap.size w)
 have H : (if a0_0 = a1_0 then (if a0_1 = a1_1 then ((laws_eqBookingS.f k l0_2 l1_2).bind fun t128 => (if t128 = true then (some true) else (some false))) else (some false)) else (some false)) = some r := h
 clear h
 by_cases c3 : a0_0 = a1_0
 · rw [if_pos c3] at H
   have c3b0 : (a0_0 == a1_0) = true := beq_iff_eq.mpr c3
   have c3b1 : (a0_0 != a1_0) = false := bne_eq_false_iff_eq.mpr c3
   clear c3
   by_cases c4 : a0_1 = a1_1
   · rw [if_pos c4] at H
     have c4b0 : (a0_1 == a1_1) = true := beq_iff_eq.mpr c4
     have c4b1 : (a0_1 != a1_1) = false := bne_eq_false_iff_eq.mpr c4
     clear c4
     obtain ⟨t128, A50, H⟩ := Option.bind_eq_some_iff.mp H
     have A5 := aM A50
     clear A50
     by_cases c6 : t128 = true
     · subst c6
       rw [if_pos rfl] at H; obtain rfl := Option.some.inj H
       go_enter Try.func16, Try.ntmps16
       go_wp2_with (first | (refine nBx 2 rfl #[.int .i64 a0_0, .int .i64 a0_1, .slice A0_2 l0_2.length c0_2] 29 ?_; intro gb126 hg w7 hbox hb; have n_ := aA (below_step (nH HB.out) hb) <| aA (hbox) <| aA (bS hg (nH HB.out)) <| aM (bS hg (nH HB.out)); clear HB; obtain ⟨HB, BK126, GW126, GE126⟩ := n_; clear hb hbox hg) | (refine nBx 3 rfl #[.int .i64 a1_0, .int .i64 a1_1, .slice A1_2 l1_2.length c1_2] 29 ?_; intro gb127 hg w8 hbox hb; have n_ := aA (nBB BK126.out hb) <| aA (below_step (nH1 HB.out GE126.out) hb) <| aA (hbox) <| aA (bS hg (nH1 HB.out GE126.out)) <| aA (bS hg (nH1 HB.out GE126.out)) <| aA (nBL BK126.out hg) <| aM (by rw [hg]; exact Nat.ne_of_gt (blk_lt (g := gb126) (o := .cells #[.int .i64 a0_0, .int .i64 a0_1, .slice A0_2 l0_2.length c0_2] 29 (0, 0)) (nB BK126.out)) : gb127 ≠ gb126); clear BK126 HB; obtain ⟨BK126, HB, BK127, GW127, GE127, NB126_127, NB127_126⟩ := n_; clear hb hbox hg; have hnb9 := NB126_127.out; have hnc9 := NB127_126.out; obtain ⟨hcz10_0, hcz10_1, hcz10_2, hfz10_0, hfz10_1, hfz10_2⟩ := nK3 BK126.out; obtain ⟨hcz11_0, hcz11_1, hcz11_2, hfz11_0, hfz11_1, hfz11_2⟩ := nK3 BK127.out) | ((with_reducible refine gate_callee (f := 49) rfl ?_); refine goesL_ (some 19) rfl rfl Try.func49 (by kernel_rfl) rfl #[.slice A0_2 l0_2.length c0_2, .slice A1_2 l1_2.length c1_2] rfl (by (try simp only [List.map_toArray, List.map_cons, List.map_nil]); first | done | rfl | (simp only [List.length_drop, List.length_take]; rfl)) ?_; (with_reducible refine (laws_eqBookingS.calls k _ _ l0_2 _ _ l1_2 true _ ?side1 ?side2 ?side3 ?side4 A5.out).mono ?_); (case side1 => repeat (first | exact (Kd.C_below HR0_2.out HB.out) | (with_reducible refine Kd.C_alloc ?_ _) | (with_reducible refine Kd.C_drewN ?_ _) | (with_reducible refine Kd.C_drew ?_))); (case side2 => exact HC0_2.out); (case side3 => repeat (first | exact (Kd.C_below HR1_2.out HB.out) | (with_reducible refine Kd.C_alloc ?_ _) | (with_reducible refine Kd.C_drewN ?_ _) | (with_reducible refine Kd.C_drew ?_))); (case side4 => exact HC1_2.out); rintro e w12 ⟨rfl, hb⟩; refine ⟨_, rfl, ?_⟩; have n_ := aA (nBB BK126.out hb) <| aA (nBB BK127.out hb) <| aM (below_step (nH2 HB.out GE126.out GE127.out) hb); clear BK126 BK127 HB; obtain ⟨BK126, BK127, HB⟩ := n_; (try clear hb); (try clear hb2); (try clear hk); (try clear hi)))
       go_ret
       exact ⟨by first | rfl | (simp [errW_none, errW_some] <;> rfl) | (simp [*, errW_none, errW_some] <;> first | rfl | (simp [wrap64]; done)), nH2 HB.out GE126.out GE127.out⟩
     · replace c6 := Bool.eq_false_iff.mpr c6
       subst c6
       rw [if_neg nN] at H; obtain rfl := Option.some.inj H
       go_enter Try.func16, Try.ntmps16
       go_wp2_with (first | (refine nBx 2 rfl #[.int .i64 a0_0, .int .i64 a0_1, .slice A0_2 l0_2.length c0_2] 29 ?_; intro gb126 hg w13 hbox hb; have n_ := aA (below_step (nH HB.out) hb) <| aA (hbox) <| aA (bS hg (nH HB.out)) <| aM (bS hg (nH HB.out)); clear HB; obtain ⟨HB, BK126, GW126, GE126⟩ := n_; clear hb hbox hg) | (refine nBx 3 rfl #[.int .i64 a1_0, .int .i64 a1_1, .slice A1_2 l1_2.length c1_2] 29 ?_; intro gb127 hg w14 hbox hb; have n_ := aA (nBB BK126.out hb) <| aA (below_step (nH1 HB.out GE126.out) hb) <| aA (hbox) <| aA (bS hg (nH1 HB.out GE126.out)) <| aA (bS hg (nH1 HB.out GE126.out)) <| aA (nBL BK126.out hg) <| aM (by rw [hg]; exact Nat.ne_of_gt (blk_lt (g := gb126) (o := .cells #[.int .i64 a0_0, .int .i64 a0_1, .slice A0_2 l0_2.length c0_2] 29 (0, 0)) (nB BK126.out)) : gb127 ≠ gb126); clear BK126 HB; obtain ⟨BK126, HB, BK127, GW127, GE127, NB126_127, NB127_126⟩ := n_; clear hb hbox hg; have hnb15 := NB126_127.out; have hnc15 := NB127_126.out; obtain ⟨hcz16_0, hcz16_1, hcz16_2, hfz16_0, hfz16_1, hfz16_2⟩ := nK3 BK126.out; obtain ⟨hcz17_0, hcz17_1, hcz17_2, hfz17_0, hfz17_1, hfz17_2⟩ := nK3 BK127.out) | ((with_reducible refine gate_callee (f := 49) rfl ?_); refine goesL_ (some 19) rfl rfl Try.func49 (by kernel_rfl) rfl #[.slice A0_2 l0_2.length c0_2, .slice A1_2 l1_2.length c1_2] rfl (by (try simp only [List.map_toArray, List.map_cons, List.map_nil]); first | done | rfl | (simp only [List.length_drop, List.length_take]; rfl)) ?_; (with_reducible refine (laws_eqBookingS.calls k _ _ l0_2 _ _ l1_2 false _ ?side1 ?side2 ?side3 ?side4 A5.out).mono ?_); (case side1 => repeat (first | exact (Kd.C_below HR0_2.out HB.out) | (with_reducible refine Kd.C_alloc ?_ _) | (with_reducible refine Kd.C_drewN ?_ _) | (with_reducible refine Kd.C_drew ?_))); (case side2 => exact HC0_2.out); (case side3 => repeat (first | exact (Kd.C_below HR1_2.out HB.out) | (with_reducible refine Kd.C_alloc ?_ _) | (with_reducible refine Kd.C_drewN ?_ _) | (with_reducible refine Kd.C_drew ?_))); (case side4 => exact HC1_2.out); rintro e w18 ⟨rfl, hb⟩; refine ⟨_, rfl, ?_⟩; have n_ := aA (nBB BK126.out hb) <| aA (nBB BK127.out hb) <| aM (below_step (nH2 HB.out GE126.out GE127.out) hb); clear BK126 BK127 HB; obtain ⟨BK126, BK127, HB⟩ := n_; (try clear hb); (try clear hb2); (try clear hk); (try clear hi)))
       go_ret
       exact ⟨by first | rfl | (simp [errW_none, errW_some] <;> rfl) | (simp [*, errW_none, errW_some] <;> first | rfl | (simp [wrap64]; done)), nH2 HB.out GE126.out GE127.out⟩
   · rw [if_neg c4] at H
     have c4b0 : (a0_1 == a1_1) = false := beq_eq_false_iff_ne.mpr c4
     have c4b1 : (a0_1 != a1_1) = true := bne_iff_ne.mpr c4
     obtain rfl := Option.some.inj H
     go_enter Try.func16, Try.ntmps16
     go_wp2_with (first | (refine nBx 2 rfl #[.int .i64 a0_0, .int .i64 a0_1, .slice A0_2 l0_2.length c0_2] 29 ?_; intro gb126 hg w19 hbox hb; have n_ := aA (below_step (nH HB.out) hb) <| aA (hbox) <| aA (bS hg (nH HB.out)) <| aM (bS hg (nH HB.out)); clear HB; obtain ⟨HB, BK126, GW126, GE126⟩ := n_; clear hb hbox hg) | (refine nBx 3 rfl #[.int .i64 a1_0, .int .i64 a1_1, .slice A1_2 l1_2.length c1_2] 29 ?_; intro gb127 hg w20 hbox hb; have n_ := aA (nBB BK126.out hb) <| aA (below_step (nH1 HB.out GE126.out) hb) <| aA (hbox) <| aA (bS hg (nH1 HB.out GE126.out)) <| aA (bS hg (nH1 HB.out GE126.out)) <| aA (nBL BK126.out hg) <| aM (by rw [hg]; exact Nat.ne_of_gt (blk_lt (g := gb126) (o := .cells #[.int .i64 a0_0, .int .i64 a0_1, .slice A0_2 l0_2.length c0_2] 29 (0, 0)) (nB BK126.out)) : gb127 ≠ gb126); clear BK126 HB; obtain ⟨BK126, HB, BK127, GW127, GE127, NB126_127, NB127_126⟩ := n_; clear hb hbox hg; have hnb21 := NB126_127.out; have hnc21 := NB127_126.out; obtain ⟨hcz22_0, hcz22_1, hcz22_2, hfz22_0, hfz22_1, hfz22_2⟩ := nK3 BK126.out; obtain ⟨hcz23_0, hcz23_1, hcz23_2, hfz23_0, hfz23_1, hfz23_2⟩ := nK3 BK127.out))
     go_ret
     exact ⟨by first | rfl | (simp [errW_none, errW_some] <;> rfl) | (simp [*, errW_none, errW_some] <;> first | rfl | (simp [wrap64]; done)), nH2 HB.out GE126.out GE127.out⟩
 · rw [if_neg c3] at H
   have c3b0 : (a0_0 == a1_0) = false := beq_eq_false_iff_ne.mpr c3
   have c3b1 : (a0_0 != a1_0) = true := bne_iff_ne.mpr c3
   obtain rfl := Option.some.inj H
   go_enter Try.func16, Try.ntmps16
   go_wp2_with (first | (refine nBx 2 rfl #[.int .i64 a0_0, .int .i64 a0_1, .slice A0_2 l0_2.length c0_2] 29 ?_; intro gb126 hg w24 hbox hb; have n_ := aA (below_step (nH HB.out) hb) <| aA (hbox) <| aA (bS hg (nH HB.out)) <| aM (bS hg (nH HB.out)); clear HB; obtain ⟨HB, BK126, GW126, GE126⟩ := n_; clear hb hbox hg) | (refine nBx 3 rfl #[.int .i64 a1_0, .int .i64 a1_1, .slice A1_2 l1_2.length c1_2] 29 ?_; intro gb127 hg w25 hbox hb; have n_ := aA (nBB BK126.out hb) <| aA (below_step (nH1 HB.out GE126.out) hb) <| aA (hbox) <| aA (bS hg (nH1 HB.out GE126.out)) <| aA (bS hg (nH1 HB.out GE126.out)) <| aA (nBL BK126.out hg) <| aM (by rw [hg]; exact Nat.ne_of_gt (blk_lt (g := gb126) (o := .cells #[.int .i64 a0_0, .int .i64 a0_1, .slice A0_2 l0_2.length c0_2] 29 (0, 0)) (nB BK126.out)) : gb127 ≠ gb126); clear BK126 HB; obtain ⟨BK126, HB, BK127, GW127, GE127, NB126_127, NB127_126⟩ := n_; clear hb hbox hg; have hnb26 := NB126_127.out; have hnc26 := NB127_126.out; obtain ⟨hcz27_0, hcz27_1, hcz27_2, hfz27_0, hfz27_1, hfz27_2⟩ := nK3 BK126.out; obtain ⟨hcz28_0, hcz28_1, hcz28_2, hfz28_0, hfz28_1, hfz28_2⟩ := nK3 BK127.out))
   go_ret
   exact ⟨by first | rfl | (simp [errW_none, errW_some] <;> rfl) | (simp [*, errW_none, errW_some] <;> first | rfl | (simp [wrap64]; done)), nH2 HB.out GE126.out GE127.out⟩
end Go.Proofs.Ytklikbjlfaednaa.P

/- Contracts of the functions of the program, each one with its plain Lean function; written by a program of the session out of the translation. -/
import Derived.Test.YtdpjoblnjjkbfaaDoorNb
import Derived.Test.YtdpjoblnjjkbfaaDoorS2
import Derived.Test.YtdpjoblnjjkbfaaDoorPx0
import Derived.Test.YtdpjoblnjjkbfaaDoorPx2
import Derived.Test.YtdpjoblnjjkbfaaDoorPx10
import Derived.Test.YtdpjoblnjjkbfaaDoorPx12
import Derived.Test.YtdpjoblnjjkbfaaDoorPx13
import Derived.Test.YtdpjoblnjjkbfaaDoorPx22
import Derived.Test.YtdpjoblnjjkbfaaDoorPx26
import Derived.Test.YtdpjoblnjjkbfaaDoorPx28
namespace Go.Proofs.YtdpjoblnjjkbfaaDoor.P
open Go.RowKit Go.Proofs.YtdpjoblnjjkbfaaDoorW.PrintWords Go.Proofs.YtdpjoblnjjkbfaaDoorW.PrintLast Go.Proofs.YtdpjoblnjjkbfaaDoorW.PrintMore
attribute [local go_sem] max2_int min2_int max_two min_two max_three min_three max_four min_four   -- for this text's walks alone
set_option linter.unusedVariables false
set_option linter.unusedSimpArgs false
/-! ### laws_FnExactJourneyText: function 3 -/
theorem laws_FnExactJourneyText.mono : ∀ a0 a1 a2 k, LeO (laws_FnExactJourneyText.f k a0 a1 a2) (laws_FnExactJourneyText.f (k + 1) a0 a1 a2) := by
 intro a0 a1 a2 k
 unfold laws_FnExactJourneyText.f
 repeat' first
  | (with_reducible exact impl_JourneyText.mono _ _ _ _)
  | (with_reducible exact laws_eqLegS.mono _ _ _)
  | (with_reducible exact laws_eqTripS.mono _ _ _)
  | (with_reducible exact laws_szTripS.mono _ _ _)
  | (with_reducible exact laws_toLegS.mono _ _)
  | (with_reducible exact laws_toTripS.mono _ _)
  | (with_reducible exact spec_JourneyText.mono _ _ _ _)
  | (with_reducible exact LeO.refl _)
  | (with_reducible exact LeO.none _)
  | (with_reducible refine LeO.ite ?_ ?_)
  | (with_reducible refine LeO.bind ?_ (fun _ => ?_))
  | exact impl_JourneyText.mono _ _ _ _
  | exact laws_eqLegS.mono _ _ _
  | exact laws_eqTripS.mono _ _ _
  | exact laws_szTripS.mono _ _ _
  | exact laws_toLegS.mono _ _
  | exact laws_toTripS.mono _ _
  | exact spec_JourneyText.mono _ _ _ _
  | exact LeO.none _
  | refine LeO.ite ?_ ?_
  | refine LeO.bind ?_ (fun _ => ?_)
set_option maxHeartbeats 8000000 in
set_option maxRecDepth 100000 in
theorem laws_FnExactJourneyText.calls (k : Nat) (A0 : Option Addr) (c0 : Nat) (l0 : List (S52)) (A1 : Option Addr) (c1 : Nat) (l1 : List (S56)) (a2 : Int) (r : Bool) (w : World) (hr0 : Kd.C k52 w A0 l0.length l0) (hc0 : l0.length ≤ c0) (hr1 : Kd.C k56 w A1 l1.length l1) (hc1 : l1.length ≤ c1) (ht : Aside0 (r = true)) (hT : Tb w) (h : laws_FnExactJourneyText.f k l0 l1 a2 = some r) :
 Calls Tryd.prog 3 #[.slice A0 l0.length c0, .slice A1 l1.length c1, .int .i64 a2] w fun e w' => e = .returned (.bool r) ∧ Below w.heap.size w w' := by
 have HTB := Aside0.mk hT
 clear hT
 have HR0 := Aside0.mk hr0
 have HC0 := Aside0.mk hc0
 clear hr0 hc0
 have HR1 := Aside0.mk hr1
 have HC1 := Aside0.mk hc1
 clear hr1 hc1
 have HB := Aside0.mk (Below.refl w.heap.size w)
 have H : ((laws_szTripS.f k l0 1048576).bind fun t270 => (if t270 < 0 then (some true) else ((laws_szLegS.f l1 t270).bind fun t271 => (if t271 < 0 then (some true) else ((laws_toTripS.f k l0).bind fun t272 => ((laws_toLegS.f k l1).bind fun t275 => ((spec_JourneyText.f k t272 t275 a2).bind fun t278 => ((laws_toTripS.f k l0).bind fun t279 => ((laws_toLegS.f k l1).bind fun t282 => ((impl_JourneyText.f k t279 t282 a2).bind fun t285 => (if t285.toList = t278.toList then ((laws_toTripS.f k l0).bind fun t286 => ((laws_eqTripS.f k t279 t286).bind fun t289 => (if t289 = true then ((laws_toLegS.f k l1).bind fun t290 => ((laws_eqLegS.f k t282 t290).bind fun t293 => (if t293 = true then (some true) else (some false)))) else (some false)))) else (some false)))))))))))) = some r := h
 clear h
 replace H := Option.bind_eq_some_iff.mp H
 obtain ⟨t270, A40, H⟩ := H
 replace H : (if t270 < 0 then (some true) else ((laws_szLegS.f l1 t270).bind fun t271 => (if t271 < 0 then (some true) else ((laws_toTripS.f k l0).bind fun t272 => ((laws_toLegS.f k l1).bind fun t275 => ((spec_JourneyText.f k t272 t275 a2).bind fun t278 => ((laws_toTripS.f k l0).bind fun t279 => ((laws_toLegS.f k l1).bind fun t282 => ((impl_JourneyText.f k t279 t282 a2).bind fun t285 => (if t285.toList = t278.toList then ((laws_toTripS.f k l0).bind fun t286 => ((laws_eqTripS.f k t279 t286).bind fun t289 => (if t289 = true then ((laws_toLegS.f k l1).bind fun t290 => ((laws_eqLegS.f k t282 t290).bind fun t293 => (if t293 = true then (some true) else (some false)))) else (some false)))) else (some false))))))))))) = some r := H
 have A4 := Aside0.mk A40
 clear A40
 by_cases c5 : t270 < 0
 · rw [if_pos c5] at H
   have c5b0 : decide (t270 < 0) = true := decide_eq_true c5
   clear c5; obtain rfl := Option.some.inj H
   go_enter Tryd.func3, Tryd.ntmps3
   go_wp2_with (first | ((with_reducible refine gate_callee (f := 5) rfl ?_); refine goesL_ (some 14) rfl rfl Tryd.func5 (by kernel_rfl) rfl #[.slice A0 l0.length c0, .int .i64 1048576] rfl (by (try simp only [List.map_toArray, List.map_cons, List.map_nil]); first | done | rfl | (simp only [List.length_drop, List.length_take]; rfl)) ?_; (with_reducible refine (laws_szTripS.calls k _ _ l0 1048576 t270 _ ?side1 ?side2 A4.out).mono ?_); (case side1 => repeat (first | exact HR0.out | (with_reducible refine Kd.C_alloc ?_ _) | (with_reducible refine Kd.C_drewN ?_ _) | (with_reducible refine Kd.C_drew ?_))); (case side2 => exact HC0.out); rintro e w6 ⟨rfl, hb⟩; refine ⟨_, rfl, ?_⟩; have n0_ := Aside0.mk (below_step (nH HB.out) hb); clear HB; have HB := n0_; clear n0_; (try clear hb); (try clear hb2); (try clear hk); (try clear hi)))
   go_ret
   exact ⟨by first | rfl | (simp [errW_none, errW_some] <;> rfl) | (simp [*, errW_none, errW_some] <;> first | rfl | (simp [wrap64]; done)), nH HB.out⟩
 · rw [if_neg c5] at H
   have c5b0 : decide (t270 < 0) = false := decide_eq_false c5
   clear c5
   replace H := Option.bind_eq_some_iff.mp H
   obtain ⟨t271, A70, H⟩ := H
   replace H : (if t271 < 0 then (some true) else ((laws_toTripS.f k l0).bind fun t272 => ((laws_toLegS.f k l1).bind fun t275 => ((spec_JourneyText.f k t272 t275 a2).bind fun t278 => ((laws_toTripS.f k l0).bind fun t279 => ((laws_toLegS.f k l1).bind fun t282 => ((impl_JourneyText.f k t279 t282 a2).bind fun t285 => (if t285.toList = t278.toList then ((laws_toTripS.f k l0).bind fun t286 => ((laws_eqTripS.f k t279 t286).bind fun t289 => (if t289 = true then ((laws_toLegS.f k l1).bind fun t290 => ((laws_eqLegS.f k t282 t290).bind fun t293 => (if t293 = true then (some true) else (some false)))) else (some false)))) else (some false))))))))) = some r := H
   have A7 := Aside0.mk A70
   clear A70
   by_cases c8 : t271 < 0
   · rw [if_pos c8] at H
     have c8b0 : decide (t271 < 0) = true := decide_eq_true c8
     clear c8; obtain rfl := Option.some.inj H
     go_enter Tryd.func3, Tryd.ntmps3
     go_wp2_with (first | ((with_reducible refine gate_callee (f := 5) rfl ?_); refine goesL_ (some 14) rfl rfl Tryd.func5 (by kernel_rfl) rfl #[.slice A0 l0.length c0, .int .i64 1048576] rfl (by (try simp only [List.map_toArray, List.map_cons, List.map_nil]); first | done | rfl | (simp only [List.length_drop, List.length_take]; rfl)) ?_; (with_reducible refine (laws_szTripS.calls k _ _ l0 1048576 t270 _ ?side1 ?side2 A4.out).mono ?_); (case side1 => repeat (first | exact HR0.out | (with_reducible refine Kd.C_alloc ?_ _) | (with_reducible refine Kd.C_drewN ?_ _) | (with_reducible refine Kd.C_drew ?_))); (case side2 => exact HC0.out); rintro e w9 ⟨rfl, hb⟩; refine ⟨_, rfl, ?_⟩; have n0_ := Aside0.mk (below_step (nH HB.out) hb); clear HB; have HB := n0_; clear n0_; (try clear hb); (try clear hb2); (try clear hk); (try clear hi)) | ((with_reducible refine gate_callee (f := 6) rfl ?_); refine goesL_ (some 19) rfl rfl Tryd.func6 (by kernel_rfl) rfl #[.slice A1 l1.length c1, .int .i64 t270] rfl (by (try simp only [List.map_toArray, List.map_cons, List.map_nil]); first | done | rfl | (simp only [List.length_drop, List.length_take]; rfl)) ?_; (with_reducible refine (laws_szLegS.calls _ _ l1 t270 t271 _ ?side1 ?side2 A7.out).mono ?_); (case side1 => repeat (first | exact (Kd.C_below HR1.out HB.out) | (with_reducible refine Kd.C_alloc ?_ _) | (with_reducible refine Kd.C_drewN ?_ _) | (with_reducible refine Kd.C_drew ?_))); (case side2 => exact HC1.out); rintro e w' ⟨rfl, ⟨nd, rfl⟩⟩; refine ⟨_, rfl, ?_⟩))
     go_ret
     exact ⟨by first | rfl | (simp [errW_none, errW_some] <;> rfl) | (simp [*, errW_none, errW_some] <;> first | rfl | (simp [wrap64]; done)), nH HB.out⟩
   · rw [if_neg c8] at H
     have c8b0 : decide (t271 < 0) = false := decide_eq_false c8
     clear c8
     replace H := Option.bind_eq_some_iff.mp H
     obtain ⟨t272, A100, H⟩ := H
     replace H : ((laws_toLegS.f k l1).bind fun t275 => ((spec_JourneyText.f k t272 t275 a2).bind fun t278 => ((laws_toTripS.f k l0).bind fun t279 => ((laws_toLegS.f k l1).bind fun t282 => ((impl_JourneyText.f k t279 t282 a2).bind fun t285 => (if t285.toList = t278.toList then ((laws_toTripS.f k l0).bind fun t286 => ((laws_eqTripS.f k t279 t286).bind fun t289 => (if t289 = true then ((laws_toLegS.f k l1).bind fun t290 => ((laws_eqLegS.f k t282 t290).bind fun t293 => (if t293 = true then (some true) else (some false)))) else (some false)))) else (some false))))))) = some r := H
     have A10 := Aside0.mk A100
     clear A100
     replace H := Option.bind_eq_some_iff.mp H
     obtain ⟨t275, A110, H⟩ := H
     replace H : ((spec_JourneyText.f k t272 t275 a2).bind fun t278 => ((laws_toTripS.f k l0).bind fun t279 => ((laws_toLegS.f k l1).bind fun t282 => ((impl_JourneyText.f k t279 t282 a2).bind fun t285 => (if t285.toList = t278.toList then ((laws_toTripS.f k l0).bind fun t286 => ((laws_eqTripS.f k t279 t286).bind fun t289 => (if t289 = true then ((laws_toLegS.f k l1).bind fun t290 => ((laws_eqLegS.f k t282 t290).bind fun t293 => (if t293 = true then (some true) else (some false)))) else (some false)))) else (some false)))))) = some r := H
     have A11 := Aside0.mk A110
     clear A110
     replace H := Option.bind_eq_some_iff.mp H
     obtain ⟨t278, A120, H⟩ := H
     replace H : ((laws_toTripS.f k l0).bind fun t279 => ((laws_toLegS.f k l1).bind fun t282 => ((impl_JourneyText.f k t279 t282 a2).bind fun t285 => (if t285.toList = t278.toList then ((laws_toTripS.f k l0).bind fun t286 => ((laws_eqTripS.f k t279 t286).bind fun t289 => (if t289 = true then ((laws_toLegS.f k l1).bind fun t290 => ((laws_eqLegS.f k t282 t290).bind fun t293 => (if t293 = true then (some true) else (some false)))) else (some false)))) else (some false))))) = some r := H
     have A12 := Aside0.mk A120
     clear A120
     replace H := Option.bind_eq_some_iff.mp H
     obtain ⟨t279, A130, H⟩ := H
     replace H : ((laws_toLegS.f k l1).bind fun t282 => ((impl_JourneyText.f k t279 t282 a2).bind fun t285 => (if t285.toList = t278.toList then ((laws_toTripS.f k l0).bind fun t286 => ((laws_eqTripS.f k t279 t286).bind fun t289 => (if t289 = true then ((laws_toLegS.f k l1).bind fun t290 => ((laws_eqLegS.f k t282 t290).bind fun t293 => (if t293 = true then (some true) else (some false)))) else (some false)))) else (some false)))) = some r := H
     have A13 := Aside0.mk A130
     clear A130
     replace H := Option.bind_eq_some_iff.mp H
     obtain ⟨t282, A140, H⟩ := H
     replace H : ((impl_JourneyText.f k t279 t282 a2).bind fun t285 => (if t285.toList = t278.toList then ((laws_toTripS.f k l0).bind fun t286 => ((laws_eqTripS.f k t279 t286).bind fun t289 => (if t289 = true then ((laws_toLegS.f k l1).bind fun t290 => ((laws_eqLegS.f k t282 t290).bind fun t293 => (if t293 = true then (some true) else (some false)))) else (some false)))) else (some false))) = some r := H
     have A14 := Aside0.mk A140
     clear A140
     replace H := Option.bind_eq_some_iff.mp H
     obtain ⟨t285, A150, H⟩ := H
     replace H : (if t285.toList = t278.toList then ((laws_toTripS.f k l0).bind fun t286 => ((laws_eqTripS.f k t279 t286).bind fun t289 => (if t289 = true then ((laws_toLegS.f k l1).bind fun t290 => ((laws_eqLegS.f k t282 t290).bind fun t293 => (if t293 = true then (some true) else (some false)))) else (some false)))) else (some false)) = some r := H
     have A15 := Aside0.mk A150
     clear A150
     by_cases c16 : t285.toList = t278.toList
     · rw [if_pos c16] at H
       have c16b0 : (t285.toList == t278.toList) = true := beq_iff_eq.mpr c16
       have c16b1 : (t285.toList != t278.toList) = false := bne_eq_false_iff_eq.mpr c16
       clear c16
       replace H := Option.bind_eq_some_iff.mp H
       obtain ⟨t286, A170, H⟩ := H
       replace H : ((laws_eqTripS.f k t279 t286).bind fun t289 => (if t289 = true then ((laws_toLegS.f k l1).bind fun t290 => ((laws_eqLegS.f k t282 t290).bind fun t293 => (if t293 = true then (some true) else (some false)))) else (some false))) = some r := H
       have A17 := Aside0.mk A170
       clear A170
       replace H := Option.bind_eq_some_iff.mp H
       obtain ⟨t289, A180, H⟩ := H
       replace H : (if t289 = true then ((laws_toLegS.f k l1).bind fun t290 => ((laws_eqLegS.f k t282 t290).bind fun t293 => (if t293 = true then (some true) else (some false)))) else (some false)) = some r := H
       have A18 := Aside0.mk A180
       clear A180
       by_cases c19 : t289 = true
       · subst c19
         have H1 : ((laws_toLegS.f k l1).bind fun t290 => ((laws_eqLegS.f k t282 t290).bind fun t293 => (if t293 = true then (some true) else (some false)))) = some r := by rw [if_pos rfl] at H; exact H
         clear H; have H := H1; clear H1
         replace H := Option.bind_eq_some_iff.mp H
         obtain ⟨t290, A200, H⟩ := H
         replace H : ((laws_eqLegS.f k t282 t290).bind fun t293 => (if t293 = true then (some true) else (some false))) = some r := H
         have A20 := Aside0.mk A200
         clear A200
         replace H := Option.bind_eq_some_iff.mp H
         obtain ⟨t293, A210, H⟩ := H
         replace H : (if t293 = true then (some true) else (some false)) = some r := H
         have A21 := Aside0.mk A210
         clear A210
         by_cases c22 : t293 = true
         · subst c22
           have H1 : (some true) = some r := by rw [if_pos rfl] at H; exact H
           clear H; have H := H1; clear H1; obtain rfl := Option.some.inj H
           go_enter Tryd.func3, Tryd.ntmps3
           go_wp2_with (first | ((with_reducible refine gate_callee (f := 5) rfl ?_); refine goesL_ (some 14) rfl rfl Tryd.func5 (by kernel_rfl) rfl #[.slice A0 l0.length c0, .int .i64 1048576] rfl (by (try simp only [List.map_toArray, List.map_cons, List.map_nil]); first | done | rfl | (simp only [List.length_drop, List.length_take]; rfl)) ?_; (with_reducible refine (laws_szTripS.calls k _ _ l0 1048576 t270 _ ?side1 ?side2 A4.out).mono ?_); (case side1 => repeat (first | exact HR0.out | (with_reducible refine Kd.C_alloc ?_ _) | (with_reducible refine Kd.C_drewN ?_ _) | (with_reducible refine Kd.C_drew ?_))); (case side2 => exact HC0.out); rintro e w23 ⟨rfl, hb⟩; refine ⟨_, rfl, ?_⟩; have n0_ := Aside0.mk (below_step (nH HB.out) hb); clear HB; have HB := n0_; clear n0_; (try clear hb); (try clear hb2); (try clear hk); (try clear hi)) | ((with_reducible refine gate_callee (f := 6) rfl ?_); refine goesL_ (some 19) rfl rfl Tryd.func6 (by kernel_rfl) rfl #[.slice A1 l1.length c1, .int .i64 t270] rfl (by (try simp only [List.map_toArray, List.map_cons, List.map_nil]); first | done | rfl | (simp only [List.length_drop, List.length_take]; rfl)) ?_; (with_reducible refine (laws_szLegS.calls _ _ l1 t270 t271 _ ?side1 ?side2 A7.out).mono ?_); (case side1 => repeat (first | exact (Kd.C_below HR1.out HB.out) | (with_reducible refine Kd.C_alloc ?_ _) | (with_reducible refine Kd.C_drewN ?_ _) | (with_reducible refine Kd.C_drew ?_))); (case side2 => exact HC1.out); rintro e w' ⟨rfl, ⟨nd, rfl⟩⟩; refine ⟨_, rfl, ?_⟩) | ((with_reducible refine gate_callee (f := 8) rfl ?_); refine goesL_ (some 23) rfl rfl Tryd.func8 (by kernel_rfl) rfl #[.slice A0 l0.length c0] rfl (by (try simp only [List.map_toArray, List.map_cons, List.map_nil]); first | done | rfl | (simp only [List.length_drop, List.length_take]; rfl)) ?_; (with_reducible refine (laws_toTripS.calls k _ _ l0 t272 _ ?side1 ?side2 A10.out).mono ?_); (case side1 => repeat (first | exact (Kd.C_below HR0.out (nH HB.out)) | (with_reducible refine Kd.C_alloc ?_ _) | (with_reducible refine Kd.C_drewN ?_ _) | (with_reducible refine Kd.C_drew ?_))); (case side2 => exact HC0.out); rintro e w24 ⟨v273, rfl, ho0, hb⟩; refine ⟨_, rfl, ?_⟩; have n0_ := Aside0.mk (Kd.S_lower ho0 (below_size (nH HB.out))); have n1_ := Aside0.mk (below_step (nH HB.out) hb); clear HB; have HO274 := n0_; have HB := n1_; clear n0_ n1_; (try clear hb); (try clear hb2); (try clear hk); (try clear hi); (try clear ho0)) | ((with_reducible refine gate_callee (f := 9) rfl ?_); refine goesL_ (some 25) rfl rfl Tryd.func9 (by kernel_rfl) rfl #[.slice A1 l1.length c1] rfl (by (try simp only [List.map_toArray, List.map_cons, List.map_nil]); first | done | rfl | (simp only [List.length_drop, List.length_take]; rfl)) ?_; (with_reducible refine (laws_toLegS.calls k _ _ l1 t275 _ ?side1 ?side2 A11.out).mono ?_); (case side1 => repeat (first | exact (Kd.C_below HR1.out HB.out) | (with_reducible refine Kd.C_alloc ?_ _) | (with_reducible refine Kd.C_drewN ?_ _) | (with_reducible refine Kd.C_drew ?_))); (case side2 => exact HC1.out); rintro e w25 ⟨v276, rfl, ho0, hb⟩; refine ⟨_, rfl, ?_⟩; have n0_ := Aside0.mk (Kd.S_below (by (with_reducible repeat (first | apply Kd.S_alloc | apply Kd.S_drewN | apply Kd.S_drew)); exact HO274.out) hb); have n1_ := Aside0.mk (Kd.R_lower ho0 (below_size (nH HB.out))); have n2_ := Aside0.mk (below_step (nH HB.out) hb); clear HO274; clear HB; have HO274 := n0_; have HO277 := n1_; have HB := n2_; clear n0_ n1_ n2_; (try clear hb); (try clear hb2); (try clear hk); (try clear hi); (try clear ho0); obtain ⟨Ao26, co26, eo26⟩ := Kd.S_slice HO274.out; subst eo26; obtain ⟨Ao27, co27, eo27⟩ := Kd.R_slice HO277.out; subst eo27) | ((with_reducible refine gate_callee (f := 7) rfl ?_); refine goesL_ (some 27) rfl rfl Tryd.func7 (by kernel_rfl) rfl #[.slice Ao26 t272.length co26, .slice Ao27 t275.length co27, .int .i64 a2] rfl (by (try simp only [List.map_toArray, List.map_cons, List.map_nil]); first | done | rfl | (simp only [List.length_drop, List.length_take]; rfl)) ?_; (with_reducible refine (spec_JourneyText.calls k _ _ t272 _ _ t275 a2 t278 _ ?side1 ?side2 ?side3 ?side4 A12.out).mono ?_); (case side1 => repeat (first | exact (Kd.S_reads' HO274.out).2.2 | (with_reducible refine Kd.C_alloc ?_ _) | (with_reducible refine Kd.C_drewN ?_ _) | (with_reducible refine Kd.C_drew ?_))); (case side2 => exact (Kd.S_reads' HO274.out).2.1); (case side3 => repeat (first | exact (Kd.R_reads' HO277.out).2.2 | (with_reducible refine Kd.C_alloc ?_ _) | (with_reducible refine Kd.C_drewN ?_ _) | (with_reducible refine Kd.C_drew ?_))); (case side4 => exact (Kd.R_reads' HO277.out).2.1); rintro e w28 ⟨rfl, hb⟩; refine ⟨_, rfl, ?_⟩; have n0_ := Aside0.mk (Kd.S_below (by (with_reducible repeat (first | apply Kd.S_alloc | apply Kd.S_drewN | apply Kd.S_drew)); exact HO274.out) hb); have n1_ := Aside0.mk (Kd.R_below (nR HO277.out) hb); have n2_ := Aside0.mk (below_step (nH HB.out) hb); clear HO274; clear HO277; clear HB; have HO274 := n0_; have HO277 := n1_; have HB := n2_; clear n0_ n1_ n2_; (try clear hb); (try clear hb2); (try clear hk); (try clear hi)) | ((with_reducible refine gate_callee (f := 8) rfl ?_); refine goesL_ (some 29) rfl rfl Tryd.func8 (by kernel_rfl) rfl #[.slice A0 l0.length c0] rfl (by (try simp only [List.map_toArray, List.map_cons, List.map_nil]); first | done | rfl | (simp only [List.length_drop, List.length_take]; rfl)) ?_; (with_reducible refine (laws_toTripS.calls k _ _ l0 t279 _ ?side1 ?side2 A13.out).mono ?_); (case side1 => repeat (first | exact (Kd.C_below HR0.out HB.out) | (with_reducible refine Kd.C_alloc ?_ _) | (with_reducible refine Kd.C_drewN ?_ _) | (with_reducible refine Kd.C_drew ?_))); (case side2 => exact HC0.out); rintro e w29 ⟨v280, rfl, ho0, hb⟩; refine ⟨_, rfl, ?_⟩; have n0_ := Aside0.mk (Kd.S_elder' (by (with_reducible repeat (first | apply Kd.S_alloc | apply Kd.S_drewN | apply Kd.S_drew)); exact HO274.out) (Kd.S_base ho0) hb); have n1_ := Aside0.mk (Kd.R_below (nR HO277.out) hb); have n2_ := Aside0.mk (Kd.S_lower (Kd.S_new' ho0 (Kd.S_lt (by (with_reducible repeat (first | apply Kd.S_alloc | apply Kd.S_drewN | apply Kd.S_drew)); exact HO274.out))) (below_size (nH HB.out))); have n3_ := Aside0.mk (below_step (nH HB.out) hb); clear HO274; clear HO277; clear HB; have HO274 := n0_; have HO277 := n1_; have HO281 := n2_; have HB := n3_; clear n0_ n1_ n2_ n3_; (try clear hb); (try clear hb2); (try clear hk); (try clear hi); (try clear ho0)) | ((with_reducible refine gate_callee (f := 9) rfl ?_); refine goesL_ (some 31) rfl rfl Tryd.func9 (by kernel_rfl) rfl #[.slice A1 l1.length c1] rfl (by (try simp only [List.map_toArray, List.map_cons, List.map_nil]); first | done | rfl | (simp only [List.length_drop, List.length_take]; rfl)) ?_; (with_reducible refine (laws_toLegS.calls k _ _ l1 t282 _ ?side1 ?side2 A14.out).mono ?_); (case side1 => repeat (first | exact (Kd.C_below HR1.out HB.out) | (with_reducible refine Kd.C_alloc ?_ _) | (with_reducible refine Kd.C_drewN ?_ _) | (with_reducible refine Kd.C_drew ?_))); (case side2 => exact HC1.out); rintro e w30 ⟨v283, rfl, ho0, hb⟩; refine ⟨_, rfl, ?_⟩; have n0_ := Aside0.mk (Kd.S_below (by (with_reducible repeat (first | apply Kd.S_alloc | apply Kd.S_drewN | apply Kd.S_drew)); exact HO274.out) hb); have n1_ := Aside0.mk (Kd.R_elder' (nR HO277.out) (Kd.R_base ho0) hb); have n2_ := Aside0.mk (Kd.S_below (by (with_reducible repeat (first | apply Kd.S_alloc | apply Kd.S_drewN | apply Kd.S_drew)); exact HO281.out) hb); have n3_ := Aside0.mk (Kd.R_lower (Kd.R_new' ho0 (Kd.R_lt (nR HO277.out))) (below_size (nH HB.out))); have n4_ := Aside0.mk (below_step (nH HB.out) hb); clear HO274; clear HO277; clear HO281; clear HB; have HO274 := n0_; have HO277 := n1_; have HO281 := n2_; have HO284 := n3_; have HB := n4_; clear n0_ n1_ n2_ n3_ n4_; (try clear hb); (try clear hb2); (try clear hk); (try clear hi); (try clear ho0); obtain ⟨Ao31, co31, eo31⟩ := Kd.S_slice HO281.out; subst eo31; obtain ⟨Ao32, co32, eo32⟩ := Kd.R_slice HO284.out; subst eo32) | ((with_reducible refine gate_callee (f := 10) rfl ?_); refine goesL_ (some 35) rfl rfl Tryd.func10 (by kernel_rfl) rfl #[.slice Ao31 t279.length co31, .slice Ao32 t282.length co32, .int .i64 a2] rfl (by (try simp only [List.map_toArray, List.map_cons, List.map_nil]); first | done | rfl | (simp only [List.length_drop, List.length_take]; rfl)) ?_; (with_reducible refine (impl_JourneyText.calls k _ _ t279 _ _ t282 a2 t285 _ ?side1 ?side2 ?side3 ?side4 ?sideT A15.out).mono ?_); (case sideT => exact tb_on HTB.out (nH HB.out)); (case side1 => repeat (first | exact (Kd.S_reads' HO281.out).2.2 | (with_reducible refine Kd.C_alloc ?_ _) | (with_reducible refine Kd.C_drewN ?_ _) | (with_reducible refine Kd.C_drew ?_))); (case side2 => exact (Kd.S_reads' HO281.out).2.1); (case side3 => repeat (first | exact (Kd.R_reads' HO284.out).2.2 | (with_reducible refine Kd.C_alloc ?_ _) | (with_reducible refine Kd.C_drewN ?_ _) | (with_reducible refine Kd.C_drew ?_))); (case side4 => exact (Kd.R_reads' HO284.out).2.1); rintro e w33 ⟨rfl, hb⟩; refine ⟨_, rfl, ?_⟩; have n0_ := Aside0.mk (Kd.S_below (by (with_reducible repeat (first | apply Kd.S_alloc | apply Kd.S_drewN | apply Kd.S_drew)); exact HO274.out) hb); have n1_ := Aside0.mk (Kd.R_below (nR HO277.out) hb); have n2_ := Aside0.mk (Kd.S_below (by (with_reducible repeat (first | apply Kd.S_alloc | apply Kd.S_drewN | apply Kd.S_drew)); exact HO281.out) hb); have n3_ := Aside0.mk (Kd.R_below (nR HO284.out) hb); have n4_ := Aside0.mk (below_step (nH HB.out) hb); clear HO274; clear HO277; clear HO281; clear HO284; clear HB; have HO274 := n0_; have HO277 := n1_; have HO281 := n2_; have HO284 := n3_; have HB := n4_; clear n0_ n1_ n2_ n3_ n4_; (try clear hb); (try clear hb2); (try clear hk); (try clear hi)) | ((with_reducible refine gate_callee (f := 8) rfl ?_); refine goesL_ (some 41) rfl rfl Tryd.func8 (by kernel_rfl) rfl #[.slice A0 l0.length c0] rfl (by (try simp only [List.map_toArray, List.map_cons, List.map_nil]); first | done | rfl | (simp only [List.length_drop, List.length_take]; rfl)) ?_; (with_reducible refine (laws_toTripS.calls k _ _ l0 t286 _ ?side1 ?side2 A17.out).mono ?_); (case side1 => repeat (first | exact (Kd.C_below HR0.out HB.out) | (with_reducible refine Kd.C_alloc ?_ _) | (with_reducible refine Kd.C_drewN ?_ _) | (with_reducible refine Kd.C_drew ?_))); (case side2 => exact HC0.out); rintro e w34 ⟨v287, rfl, ho0, hb⟩; refine ⟨_, rfl, ?_⟩; have n0_ := Aside0.mk (Kd.S_elder' (by (with_reducible repeat (first | apply Kd.S_alloc | apply Kd.S_drewN | apply Kd.S_drew)); exact HO274.out) (Kd.S_base ho0) hb); have n1_ := Aside0.mk (Kd.R_below (nR HO277.out) hb); have n2_ := Aside0.mk (Kd.S_elder' (by (with_reducible repeat (first | apply Kd.S_alloc | apply Kd.S_drewN | apply Kd.S_drew)); exact HO281.out) (Kd.S_base ho0) hb); have n3_ := Aside0.mk (Kd.R_below (nR HO284.out) hb); have n4_ := Aside0.mk (Kd.S_lower (Kd.S_new' (Kd.S_new' ho0 (Kd.S_lt (by (with_reducible repeat (first | apply Kd.S_alloc | apply Kd.S_drewN | apply Kd.S_drew)); exact HO274.out))) (Kd.S_lt (by (with_reducible repeat (first | apply Kd.S_alloc | apply Kd.S_drewN | apply Kd.S_drew)); exact HO281.out))) (below_size (nH HB.out))); have n5_ := Aside0.mk (below_step (nH HB.out) hb); clear HO274; clear HO277; clear HO281; clear HO284; clear HB; have HO274 := n0_; have HO277 := n1_; have HO281 := n2_; have HO284 := n3_; have HO288 := n4_; have HB := n5_; clear n0_ n1_ n2_ n3_ n4_ n5_; (try clear hb); (try clear hb2); (try clear hk); (try clear hi); (try clear ho0); obtain ⟨Ao35, co35, eo35⟩ := Kd.S_slice HO288.out; subst eo35) | ((with_reducible refine gate_callee (f := 11) rfl ?_); refine goesL_ (some 42) rfl rfl Tryd.func11 (by kernel_rfl) rfl #[.slice Ao31 t279.length co31, .slice Ao35 t286.length co35] rfl (by (try simp only [List.map_toArray, List.map_cons, List.map_nil]); first | done | rfl | (simp only [List.length_drop, List.length_take]; rfl)) ?_; (with_reducible refine (laws_eqTripS.calls k _ _ t279 _ _ t286 true _ ?side1 ?side2 ?side3 ?side4 A18.out).mono ?_); (case side1 => repeat (first | exact (Kd.S_reads' HO281.out).2.2 | (with_reducible refine Kd.C_alloc ?_ _) | (with_reducible refine Kd.C_drewN ?_ _) | (with_reducible refine Kd.C_drew ?_))); (case side2 => exact (Kd.S_reads' HO281.out).2.1); (case side3 => repeat (first | exact (Kd.S_reads' HO288.out).2.2 | (with_reducible refine Kd.C_alloc ?_ _) | (with_reducible refine Kd.C_drewN ?_ _) | (with_reducible refine Kd.C_drew ?_))); (case side4 => exact (Kd.S_reads' HO288.out).2.1); rintro e w36 ⟨rfl, hb⟩; refine ⟨_, rfl, ?_⟩; have n0_ := Aside0.mk (Kd.S_below (by (with_reducible repeat (first | apply Kd.S_alloc | apply Kd.S_drewN | apply Kd.S_drew)); exact HO274.out) hb); have n1_ := Aside0.mk (Kd.R_below (nR HO277.out) hb); have n2_ := Aside0.mk (Kd.S_below (by (with_reducible repeat (first | apply Kd.S_alloc | apply Kd.S_drewN | apply Kd.S_drew)); exact HO281.out) hb); have n3_ := Aside0.mk (Kd.R_below (nR HO284.out) hb); have n4_ := Aside0.mk (Kd.S_below (by (with_reducible repeat (first | apply Kd.S_alloc | apply Kd.S_drewN | apply Kd.S_drew)); exact HO288.out) hb); have n5_ := Aside0.mk (below_step (nH HB.out) hb); clear HO274; clear HO277; clear HO281; clear HO284; clear HO288; clear HB; have HO274 := n0_; have HO277 := n1_; have HO281 := n2_; have HO284 := n3_; have HO288 := n4_; have HB := n5_; clear n0_ n1_ n2_ n3_ n4_ n5_; (try clear hb); (try clear hb2); (try clear hk); (try clear hi)) | ((with_reducible refine gate_callee (f := 9) rfl ?_); refine goesL_ (some 46) rfl rfl Tryd.func9 (by kernel_rfl) rfl #[.slice A1 l1.length c1] rfl (by (try simp only [List.map_toArray, List.map_cons, List.map_nil]); first | done | rfl | (simp only [List.length_drop, List.length_take]; rfl)) ?_; (with_reducible refine (laws_toLegS.calls k _ _ l1 t290 _ ?side1 ?side2 A20.out).mono ?_); (case side1 => repeat (first | exact (Kd.C_below HR1.out HB.out) | (with_reducible refine Kd.C_alloc ?_ _) | (with_reducible refine Kd.C_drewN ?_ _) | (with_reducible refine Kd.C_drew ?_))); (case side2 => exact HC1.out); rintro e w37 ⟨v291, rfl, ho0, hb⟩; refine ⟨_, rfl, ?_⟩; have n0_ := Aside0.mk (Kd.S_below (by (with_reducible repeat (first | apply Kd.S_alloc | apply Kd.S_drewN | apply Kd.S_drew)); exact HO274.out) hb); have n1_ := Aside0.mk (Kd.R_elder' (nR HO277.out) (Kd.R_base ho0) hb); have n2_ := Aside0.mk (Kd.S_below (by (with_reducible repeat (first | apply Kd.S_alloc | apply Kd.S_drewN | apply Kd.S_drew)); exact HO281.out) hb); have n3_ := Aside0.mk (Kd.R_elder' (nR HO284.out) (Kd.R_base ho0) hb); have n4_ := Aside0.mk (Kd.S_below (by (with_reducible repeat (first | apply Kd.S_alloc | apply Kd.S_drewN | apply Kd.S_drew)); exact HO288.out) hb); have n5_ := Aside0.mk (Kd.R_lower (Kd.R_new' (Kd.R_new' ho0 (Kd.R_lt (nR HO277.out))) (Kd.R_lt (nR HO284.out))) (below_size (nH HB.out))); have n6_ := Aside0.mk (below_step (nH HB.out) hb); clear HO274; clear HO277; clear HO281; clear HO284; clear HO288; clear HB; have HO274 := n0_; have HO277 := n1_; have HO281 := n2_; have HO284 := n3_; have HO288 := n4_; have HO292 := n5_; have HB := n6_; clear n0_ n1_ n2_ n3_ n4_ n5_ n6_; (try clear hb); (try clear hb2); (try clear hk); (try clear hi); (try clear ho0); obtain ⟨Ao38, co38, eo38⟩ := Kd.R_slice HO292.out; subst eo38) | ((with_reducible refine gate_callee (f := 12) rfl ?_); refine goesL_ (some 47) rfl rfl Tryd.func12 (by kernel_rfl) rfl #[.slice Ao32 t282.length co32, .slice Ao38 t290.length co38] rfl (by (try simp only [List.map_toArray, List.map_cons, List.map_nil]); first | done | rfl | (simp only [List.length_drop, List.length_take]; rfl)) ?_; (with_reducible refine (laws_eqLegS.calls k _ _ t282 _ _ t290 true _ ?side1 ?side2 ?side3 ?side4 A21.out).mono ?_); (case side1 => repeat (first | exact (Kd.R_reads' HO284.out).2.2 | (with_reducible refine Kd.C_alloc ?_ _) | (with_reducible refine Kd.C_drewN ?_ _) | (with_reducible refine Kd.C_drew ?_))); (case side2 => exact (Kd.R_reads' HO284.out).2.1); (case side3 => repeat (first | exact (Kd.R_reads' HO292.out).2.2 | (with_reducible refine Kd.C_alloc ?_ _) | (with_reducible refine Kd.C_drewN ?_ _) | (with_reducible refine Kd.C_drew ?_))); (case side4 => exact (Kd.R_reads' HO292.out).2.1); rintro e w39 ⟨rfl, hb⟩; refine ⟨_, rfl, ?_⟩; have n0_ := Aside0.mk (Kd.S_below (by (with_reducible repeat (first | apply Kd.S_alloc | apply Kd.S_drewN | apply Kd.S_drew)); exact HO274.out) hb); have n1_ := Aside0.mk (Kd.R_below (nR HO277.out) hb); have n2_ := Aside0.mk (Kd.S_below (by (with_reducible repeat (first | apply Kd.S_alloc | apply Kd.S_drewN | apply Kd.S_drew)); exact HO281.out) hb); have n3_ := Aside0.mk (Kd.R_below (nR HO284.out) hb); have n4_ := Aside0.mk (Kd.S_below (by (with_reducible repeat (first | apply Kd.S_alloc | apply Kd.S_drewN | apply Kd.S_drew)); exact HO288.out) hb); have n5_ := Aside0.mk (Kd.R_below (nR HO292.out) hb); have n6_ := Aside0.mk (below_step (nH HB.out) hb); clear HO274; clear HO277; clear HO281; clear HO284; clear HO288; clear HO292; clear HB; have HO274 := n0_; have HO277 := n1_; have HO281 := n2_; have HO284 := n3_; have HO288 := n4_; have HO292 := n5_; have HB := n6_; clear n0_ n1_ n2_ n3_ n4_ n5_ n6_; (try clear hb); (try clear hb2); (try clear hk); (try clear hi)))
           go_ret
           exact ⟨by first | rfl | (simp [errW_none, errW_some] <;> rfl) | (simp [*, errW_none, errW_some] <;> first | rfl | (simp [wrap64]; done)), nH HB.out⟩
         · replace c22 := Bool.eq_false_iff.mpr c22
           subst c22
           have H1 : (some false) = some r := by rw [if_neg (show ¬ (false = true) by decide)] at H; exact H
           clear H; have H := H1; clear H1
           exact absurd ((Option.some.inj H).trans ht.out) (by decide)
       · replace c19 := Bool.eq_false_iff.mpr c19
         subst c19
         have H1 : (some false) = some r := by rw [if_neg (show ¬ (false = true) by decide)] at H; exact H
         clear H; have H := H1; clear H1
         exact absurd ((Option.some.inj H).trans ht.out) (by decide)
     · rw [if_neg c16] at H
       have c16b0 : (t285.toList == t278.toList) = false := beq_eq_false_iff_ne.mpr c16
       have c16b1 : (t285.toList != t278.toList) = true := bne_iff_ne.mpr c16
       exact absurd ((Option.some.inj H).trans ht.out) (by decide)
end Go.Proofs.YtdpjoblnjjkbfaaDoor.P

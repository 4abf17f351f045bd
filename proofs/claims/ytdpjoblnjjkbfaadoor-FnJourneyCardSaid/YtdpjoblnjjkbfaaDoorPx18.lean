/- Contracts of functions, each with its plain Lean function. -/
import Derived.Test.YtdpjoblnjjkbfaaDoorNe
import Derived.Test.YtdpjoblnjjkbfaaDoorNb
import Derived.Test.YtdpjoblnjjkbfaaDoorPx0
import Derived.Test.YtdpjoblnjjkbfaaDoorPx10
import Derived.Test.YtdpjoblnjjkbfaaDoorPx11
import Derived.Test.YtdpjoblnjjkbfaaDoorPx17
namespace Go.Proofs.YtdpjoblnjjkbfaaDoor.P
open Go.RowKit Go.Proofs.YtdpjoblnjjkbfaaDoorW.PrintWords Go.Proofs.YtdpjoblnjjkbfaaDoorW.PrintLast Go.Proofs.YtdpjoblnjjkbfaaDoorW.PrintMore
attribute [local go_sem] max2_int min2_int max_two min_two max_three min_three max_four min_four   -- for this text's walks alone
set_option linter.unusedVariables false
set_option linter.unusedSimpArgs false
/-! ### spec_DrawRightQuestion: function 14 -/
theorem spec_DrawRightQuestion.mono : ∀ a0 k, LeO (spec_DrawRightQuestion.f k a0) (spec_DrawRightQuestion.f (k + 1) a0) := by
 intro a0 k
 unfold spec_DrawRightQuestion.f
 repeat' first
  | (with_reducible exact spec_l01New.mono _ _)
  | (with_reducible exact spec_l08DrawTable.mono _ _ _ _ _ _ _)
  | (with_reducible exact LeO.refl _)
  | (with_reducible exact LeO.none _)
  | (with_reducible refine LeO.ite ?_ ?_)
  | (with_reducible refine LeO.bind ?_ (fun _ => ?_))
  | exact spec_l01New.mono _ _
  | exact spec_l08DrawTable.mono _ _ _ _ _ _ _
  | exact LeO.none _
  | refine LeO.ite ?_ ?_
  | refine LeO.bind ?_ (fun _ => ?_)
set_option maxHeartbeats 8000000 in
set_option maxRecDepth 100000 in
theorem spec_DrawRightQuestion.calls (k : Nat) (A0 : Option Addr) (c0 : Nat) (l0 : List Int) (r1 : List (S46)) (r2 : Int) (r3 : Int) (r4 : Int) (r5 : Int) (w : World) (hr0 : Kd.C (Kd.int .u8) w A0 l0.length l0) (hc0 : l0.length ≤ c0) (h : spec_DrawRightQuestion.f k l0 = some (r1, r2, r3, r4, r5)) :
 Calls Tryd.prog 14 #[.slice A0 l0.length c0] w fun e w' => ∃ v0_ : Value, e = .returned (.tuple #[v0_, .int .i64 r2, .int .i64 r3, .int .i64 r4, .int .i64 r5]) ∧ Kd.S k46 46 w' w.heap.size (fun _ => True) v0_ r1 ∧ Below w.heap.size w w' := by
 have hu66 := Tryd.underlying66
 have HR0 := aM hr0
 have HC0 := aM hc0
 clear hr0 hc0
 have HB := aM (Below.refl w.heap.size w)
 have H : ((spec_l01New.f k l0).bind fun bt259 => ((spec_l01Below.f bt259.1 bt259.2.1 bt259.2.2 2).bind fun bt263 => ((spec_l01Size.f l0 8).bind fun t266 => ((spec_l08DrawTable.f k bt259.1 bt263.2.1 bt263.2.2 (wrap64 (4 + bt263.1)) ([] : List (S98)) (wrap64 (3 + t266))).bind fun bt267 => ((spec_l01Below.f bt259.1 bt267.2.1 bt267.2.2 5).bind fun bt272 => ((spec_l01Below.f bt259.1 bt272.2.1 bt272.2.2 5).bind fun bt275 => ((spec_l01Below.f bt259.1 bt275.2.1 bt275.2.2 60).bind fun bt278 => ((spec_l01Below.f bt259.1 bt278.2.1 bt278.2.2 8).bind fun bt281 => (some (bt267.1, bt272.1, bt275.1, bt278.1, bt281.1)))))))))) = some (r1, r2, r3, r4, r5) := h
 clear h
 replace H := Option.bind_eq_some_iff.mp H
 obtain ⟨⟨t259, t260, t261⟩, A20, H⟩ := H
 replace H : ((spec_l01Below.f t259 t260 t261 2).bind fun bt263 => ((spec_l01Size.f l0 8).bind fun t266 => ((spec_l08DrawTable.f k t259 bt263.2.1 bt263.2.2 (wrap64 (4 + bt263.1)) ([] : List (S98)) (wrap64 (3 + t266))).bind fun bt267 => ((spec_l01Below.f t259 bt267.2.1 bt267.2.2 5).bind fun bt272 => ((spec_l01Below.f t259 bt272.2.1 bt272.2.2 5).bind fun bt275 => ((spec_l01Below.f t259 bt275.2.1 bt275.2.2 60).bind fun bt278 => ((spec_l01Below.f t259 bt278.2.1 bt278.2.2 8).bind fun bt281 => (some (bt267.1, bt272.1, bt275.1, bt278.1, bt281.1))))))))) = some (r1, r2, r3, r4, r5) := H
 have A2 := aM A20
 clear A20
 replace H := Option.bind_eq_some_iff.mp H
 obtain ⟨⟨t263, t264, t265⟩, A30, H⟩ := H
 replace H : ((spec_l01Size.f l0 8).bind fun t266 => ((spec_l08DrawTable.f k t259 t264 t265 (wrap64 (4 + t263)) ([] : List (S98)) (wrap64 (3 + t266))).bind fun bt267 => ((spec_l01Below.f t259 bt267.2.1 bt267.2.2 5).bind fun bt272 => ((spec_l01Below.f t259 bt272.2.1 bt272.2.2 5).bind fun bt275 => ((spec_l01Below.f t259 bt275.2.1 bt275.2.2 60).bind fun bt278 => ((spec_l01Below.f t259 bt278.2.1 bt278.2.2 8).bind fun bt281 => (some (bt267.1, bt272.1, bt275.1, bt278.1, bt281.1)))))))) = some (r1, r2, r3, r4, r5) := H
 have A3 := aM A30
 clear A30
 obtain ⟨t266, A40, H⟩ := Option.bind_eq_some_iff.mp H
 have A4 := aM A40
 clear A40
 replace H := Option.bind_eq_some_iff.mp H
 obtain ⟨⟨t267, t270, t271⟩, A50, H⟩ := H
 replace H : ((spec_l01Below.f t259 t270 t271 5).bind fun bt272 => ((spec_l01Below.f t259 bt272.2.1 bt272.2.2 5).bind fun bt275 => ((spec_l01Below.f t259 bt275.2.1 bt275.2.2 60).bind fun bt278 => ((spec_l01Below.f t259 bt278.2.1 bt278.2.2 8).bind fun bt281 => (some (t267, bt272.1, bt275.1, bt278.1, bt281.1)))))) = some (r1, r2, r3, r4, r5) := H
 have A5 := aM A50
 clear A50
 replace H := Option.bind_eq_some_iff.mp H
 obtain ⟨⟨t272, t273, t274⟩, A60, H⟩ := H
 replace H : ((spec_l01Below.f t259 t273 t274 5).bind fun bt275 => ((spec_l01Below.f t259 bt275.2.1 bt275.2.2 60).bind fun bt278 => ((spec_l01Below.f t259 bt278.2.1 bt278.2.2 8).bind fun bt281 => (some (t267, t272, bt275.1, bt278.1, bt281.1))))) = some (r1, r2, r3, r4, r5) := H
 have A6 := aM A60
 clear A60
 replace H := Option.bind_eq_some_iff.mp H
 obtain ⟨⟨t275, t276, t277⟩, A70, H⟩ := H
 replace H : ((spec_l01Below.f t259 t276 t277 60).bind fun bt278 => ((spec_l01Below.f t259 bt278.2.1 bt278.2.2 8).bind fun bt281 => (some (t267, t272, t275, bt278.1, bt281.1)))) = some (r1, r2, r3, r4, r5) := H
 have A7 := aM A70
 clear A70
 replace H := Option.bind_eq_some_iff.mp H
 obtain ⟨⟨t278, t279, t280⟩, A80, H⟩ := H
 replace H : ((spec_l01Below.f t259 t279 t280 8).bind fun bt281 => (some (t267, t272, t275, t278, bt281.1))) = some (r1, r2, r3, r4, r5) := H
 have A8 := aM A80
 clear A80
 replace H := Option.bind_eq_some_iff.mp H
 obtain ⟨⟨t281, t282, t283⟩, A90, H⟩ := H
 replace H : (some (t267, t272, t275, t278, t281)) = some (r1, r2, r3, r4, r5) := H
 have A9 := aM A90
 clear A90
 simp only [Option.some.injEq, Prod.mk.injEq] at H
 obtain ⟨rfl, rfl, rfl, rfl, rfl⟩ := H
 go_enter Tryd.func14, Tryd.ntmps14
 go_wp2_with (first | ((with_reducible refine gate_callee (f := 30) rfl ?_); refine goesL_ (some 13) rfl rfl Tryd.func30 (by kernel_rfl) rfl #[.slice A0 l0.length c0] rfl (by (try simp only [List.map_toArray, List.map_cons, List.map_nil]); first | done | rfl | (simp only [List.length_drop, List.length_take]; rfl)) ?_; (with_reducible refine (spec_l01New.calls k _ _ l0 t259 t260 t261 w _ ?side1 ?side2 ?side3 A2.out).mono ?_); (case side1 => repeat (first | (with_reducible first | exact HB.out | apply below_alloc | apply pw_below_drewN | apply below_drew1) | exact HB.out)); (case side2 => exact HR0.out); (case side3 => exact HC0.out); rintro e w10 ⟨g262, rfl, hi, hb, hb2⟩; refine ⟨_, rfl, ?_⟩; have n_ := aA (hb) <| aM (hi); clear HB; obtain ⟨HB, HI262⟩ := n_; (try clear hb); (try clear hb2); (try clear hk); (try clear hi)) | ((with_reducible refine gate_callee (f := 32) rfl ?_); refine goesL_ (some 16) rfl rfl Tryd.func32 (by kernel_rfl) rfl #[.pointer (some ⟨g262, 0, none⟩), .int .i64 2] rfl (by (try simp only [List.map_toArray, List.map_cons, List.map_nil]); first | done | rfl | (simp only [List.length_drop, List.length_take]; rfl)) ?_; (with_reducible refine (spec_l01Below.calls g262 t259 t260 t261 2 t263 t264 t265 w _ ?side1 ?side2 A3.out).mono ?_); (case side1 => repeat (first | (with_reducible first | exact HI262.out | apply IsS84.alloc | apply IsS84.drewN | apply IsS84.drew | apply IsS84.set_1 | apply IsS84.set_2) | exact HI262.out)); (case side2 => repeat (first | (with_reducible first | exact HB.out | apply below_alloc | apply pw_below_drewN | apply below_drew1 | refine below_set ?_ (IsS84.ge HI262.out)) | exact HB.out)); rintro e w11 ⟨rfl, hi, hb, hk⟩; refine ⟨_, rfl, ?_⟩; have n_ := aA (hb) <| aM (hi); clear HB HI262; obtain ⟨HB, HI262⟩ := n_; (try clear hb); (try clear hb2); (try clear hk); (try clear hi)) | ((with_reducible refine gate_callee (f := 33) rfl ?_); refine goesL_ (some 20) rfl rfl Tryd.func33 (by kernel_rfl) rfl #[.slice A0 l0.length c0, .int .i64 8] rfl (by (try simp only [List.map_toArray, List.map_cons, List.map_nil]); first | done | rfl | (simp only [List.length_drop, List.length_take]; rfl)) ?_; (with_reducible refine (spec_l01Size.calls _ _ l0 8 t266 _ ?side1 ?side2 A4.out).mono ?_); (case side1 => repeat (first | exact (Kd.C_below HR0.out HB.out) | (with_reducible refine Kd.C_alloc ?_ _) | (with_reducible refine Kd.C_drewN ?_ _) | (with_reducible refine Kd.C_drew ?_))); (case side2 => exact HC0.out); rintro e w' ⟨rfl, ⟨nd, rfl⟩⟩; refine ⟨_, rfl, ?_⟩) | ((with_reducible refine gate_callee (f := 31) rfl ?_); refine goesL_ (some 22) rfl rfl Tryd.func31 (by kernel_rfl) rfl #[.pointer (some ⟨g262, 0, none⟩), .agg #[.int .i64 (wrap64 (4 + t263)), .slice none 0 0], .int .i64 (wrap64 (3 + t266))] rfl (by (try simp only [List.map_toArray, List.map_cons, List.map_nil]); first | done | rfl | (simp only [List.length_drop, List.length_take]; rfl)) ?_; (refine (spec_l08DrawTable.calls k g262 t259 t264 t265 (wrap64 (4 + t263)) _ _ ([] : List (S98)) (wrap64 (3 + t266)) t267 t270 t271 w _ ?side1 ?side2 ?side3 ?side4 A5.out).mono ?_); (case side1 => repeat (first | (with_reducible first | exact HI262.out | apply IsS84.alloc | apply IsS84.drewN | apply IsS84.drew | apply IsS84.set_1 | apply IsS84.set_2) | exact HI262.out)); (case side2 => repeat (first | (with_reducible first | exact HB.out | apply below_alloc | apply pw_below_drewN | apply below_drew1 | refine below_set ?_ (IsS84.ge HI262.out)) | exact HB.out)); (case side3 => exact Kd.C_foot_nil); (case side4 => exact Nat.le_refl _); rintro e w12 ⟨v268, rfl, ho0, hi, hb, hk⟩; refine ⟨_, rfl, ?_⟩; have n_ := aA (Kd.S_lower ho0 (below_size (by repeat (first | (with_reducible first | exact HB.out | apply below_alloc | apply pw_below_drewN | apply below_drew1 | refine below_set ?_ (IsS84.ge HI262.out)) | exact HB.out)))) <| aA (hb) <| aM (hi); clear HB HI262; obtain ⟨HO269, HB, HI262⟩ := n_; (try clear hb); (try clear hb2); (try clear hk); (try clear hi); (try clear ho0)) | ((with_reducible refine gate_callee (f := 32) rfl ?_); refine goesL_ (some 24) rfl rfl Tryd.func32 (by kernel_rfl) rfl #[.pointer (some ⟨g262, 0, none⟩), .int .i64 5] rfl (by (try simp only [List.map_toArray, List.map_cons, List.map_nil]); first | done | rfl | (simp only [List.length_drop, List.length_take]; rfl)) ?_; (with_reducible refine (spec_l01Below.calls g262 t259 t270 t271 5 t272 t273 t274 w _ ?side1 ?side2 A6.out).mono ?_); (case side1 => repeat (first | (with_reducible first | exact HI262.out | apply IsS84.alloc | apply IsS84.drewN | apply IsS84.drew | apply IsS84.set_1 | apply IsS84.set_2) | exact HI262.out)); (case side2 => repeat (first | (with_reducible first | exact HB.out | apply below_alloc | apply pw_below_drewN | apply below_drew1 | refine below_set ?_ (IsS84.ge HI262.out)) | exact HB.out)); rintro e w13 ⟨rfl, hi, hb, hk⟩; refine ⟨_, rfl, ?_⟩; have n_ := aA (Kd.S_mono (Kd.S_keep (IsS84.apartS (show IsS84 w _ g262 t259 t270 t271 from by repeat (first | (with_reducible first | exact HI262.out | apply IsS84.alloc | apply IsS84.drewN | apply IsS84.drew | apply IsS84.set_1 | apply IsS84.set_2) | exact HI262.out)) (by (with_reducible repeat (first | apply Kd.S_alloc | apply Kd.S_drewN | apply Kd.S_drew)); exact HO269.out) (by decide)) hk (fun _ h => h.2)) (fun _ h => h.1)) <| aA (hb) <| aM (hi); clear HO269 HB HI262; obtain ⟨HO269, HB, HI262⟩ := n_; (try clear hb); (try clear hb2); (try clear hk); (try clear hi)) | ((with_reducible refine gate_callee (f := 32) rfl ?_); refine goesL_ (some 26) rfl rfl Tryd.func32 (by kernel_rfl) rfl #[.pointer (some ⟨g262, 0, none⟩), .int .i64 5] rfl (by (try simp only [List.map_toArray, List.map_cons, List.map_nil]); first | done | rfl | (simp only [List.length_drop, List.length_take]; rfl)) ?_; (with_reducible refine (spec_l01Below.calls g262 t259 t273 t274 5 t275 t276 t277 w _ ?side1 ?side2 A7.out).mono ?_); (case side1 => repeat (first | (with_reducible first | exact HI262.out | apply IsS84.alloc | apply IsS84.drewN | apply IsS84.drew | apply IsS84.set_1 | apply IsS84.set_2) | exact HI262.out)); (case side2 => repeat (first | (with_reducible first | exact HB.out | apply below_alloc | apply pw_below_drewN | apply below_drew1 | refine below_set ?_ (IsS84.ge HI262.out)) | exact HB.out)); rintro e w14 ⟨rfl, hi, hb, hk⟩; refine ⟨_, rfl, ?_⟩; have n_ := aA (Kd.S_mono (Kd.S_keep (IsS84.apartS (show IsS84 w _ g262 t259 t273 t274 from by repeat (first | (with_reducible first | exact HI262.out | apply IsS84.alloc | apply IsS84.drewN | apply IsS84.drew | apply IsS84.set_1 | apply IsS84.set_2) | exact HI262.out)) (by (with_reducible repeat (first | apply Kd.S_alloc | apply Kd.S_drewN | apply Kd.S_drew)); exact HO269.out) (by decide)) hk (fun _ h => h.2)) (fun _ h => h.1)) <| aA (hb) <| aM (hi); clear HO269 HB HI262; obtain ⟨HO269, HB, HI262⟩ := n_; (try clear hb); (try clear hb2); (try clear hk); (try clear hi)) | ((with_reducible refine gate_callee (f := 32) rfl ?_); refine goesL_ (some 28) rfl rfl Tryd.func32 (by kernel_rfl) rfl #[.pointer (some ⟨g262, 0, none⟩), .int .i64 60] rfl (by (try simp only [List.map_toArray, List.map_cons, List.map_nil]); first | done | rfl | (simp only [List.length_drop, List.length_take]; rfl)) ?_; (with_reducible refine (spec_l01Below.calls g262 t259 t276 t277 60 t278 t279 t280 w _ ?side1 ?side2 A8.out).mono ?_); (case side1 => repeat (first | (with_reducible first | exact HI262.out | apply IsS84.alloc | apply IsS84.drewN | apply IsS84.drew | apply IsS84.set_1 | apply IsS84.set_2) | exact HI262.out)); (case side2 => repeat (first | (with_reducible first | exact HB.out | apply below_alloc | apply pw_below_drewN | apply below_drew1 | refine below_set ?_ (IsS84.ge HI262.out)) | exact HB.out)); rintro e w15 ⟨rfl, hi, hb, hk⟩; refine ⟨_, rfl, ?_⟩; have n_ := aA (Kd.S_mono (Kd.S_keep (IsS84.apartS (show IsS84 w _ g262 t259 t276 t277 from by repeat (first | (with_reducible first | exact HI262.out | apply IsS84.alloc | apply IsS84.drewN | apply IsS84.drew | apply IsS84.set_1 | apply IsS84.set_2) | exact HI262.out)) (by (with_reducible repeat (first | apply Kd.S_alloc | apply Kd.S_drewN | apply Kd.S_drew)); exact HO269.out) (by decide)) hk (fun _ h => h.2)) (fun _ h => h.1)) <| aA (hb) <| aM (hi); clear HO269 HB HI262; obtain ⟨HO269, HB, HI262⟩ := n_; (try clear hb); (try clear hb2); (try clear hk); (try clear hi)) | ((with_reducible refine gate_callee (f := 32) rfl ?_); refine goesL_ (some 34) rfl rfl Tryd.func32 (by kernel_rfl) rfl #[.pointer (some ⟨g262, 0, none⟩), .int .i64 8] rfl (by (try simp only [List.map_toArray, List.map_cons, List.map_nil]); first | done | rfl | (simp only [List.length_drop, List.length_take]; rfl)) ?_; (with_reducible refine (spec_l01Below.calls g262 t259 t279 t280 8 t281 t282 t283 w _ ?side1 ?side2 A9.out).mono ?_); (case side1 => repeat (first | (with_reducible first | exact HI262.out | apply IsS84.alloc | apply IsS84.drewN | apply IsS84.drew | apply IsS84.set_1 | apply IsS84.set_2) | exact HI262.out)); (case side2 => repeat (first | (with_reducible first | exact HB.out | apply below_alloc | apply pw_below_drewN | apply below_drew1 | refine below_set ?_ (IsS84.ge HI262.out)) | exact HB.out)); rintro e w16 ⟨rfl, hi, hb, hk⟩; refine ⟨_, rfl, ?_⟩; have n_ := aA (Kd.S_mono (Kd.S_keep (IsS84.apartS (show IsS84 w _ g262 t259 t279 t280 from by repeat (first | (with_reducible first | exact HI262.out | apply IsS84.alloc | apply IsS84.drewN | apply IsS84.drew | apply IsS84.set_1 | apply IsS84.set_2) | exact HI262.out)) (by (with_reducible repeat (first | apply Kd.S_alloc | apply Kd.S_drewN | apply Kd.S_drew)); exact HO269.out) (by decide)) hk (fun _ h => h.2)) (fun _ h => h.1)) <| aA (hb) <| aM (hi); clear HO269 HB HI262; obtain ⟨HO269, HB, HI262⟩ := n_; (try clear hb); (try clear hb2); (try clear hk); (try clear hi)))
 refine bodyPost_ret (results_list (rs := [.tmp 2, .tmp 3, .tmp 4, .tmp 5, .tmp 6]) rfl (by simp) (.tmp (.tmp (.tmp (.tmp (.tmp .nil)))))) rfl ?_
 exact ⟨_, by first | rfl | (simp [errW_none, errW_some] <;> rfl) | (simp [*, errW_none, errW_some] <;> first | rfl | (simp [wrap64]; done)), by (with_reducible repeat (first | apply Kd.S_alloc | apply Kd.S_drewN | apply Kd.S_drew)); exact HO269.out, by repeat (first | (with_reducible first | exact HB.out | apply below_alloc | apply pw_below_drewN | apply below_drew1 | refine below_set ?_ (IsS84.ge HI262.out)) | exact HB.out)⟩
/-! ### laws_at: function 15 -/
set_option maxHeartbeats 8000000 in
set_option maxRecDepth 100000 in
theorem laws_at.calls (A0 : Option Addr) (c0 : Nat) (l0 : List Int) (a1 : Int) (r : Int) (w : World) (hr0 : Kd.C (Kd.int .u8) w A0 l0.length l0) (hc0 : l0.length ≤ c0) (h : laws_at.f l0 a1 = some r) :
 Calls Tryd.prog 15 #[.slice A0 l0.length c0, .int .i64 a1] w fun e w' => e = .returned (.int .i64 r) ∧ Drawn0 w w' := by
 have HR0 := aM hr0
 have HC0 := aM hc0
 clear hr0 hc0
 have H : (if a1 < (l0.length : Int) then (if 0 ≤ a1 then (some (wrap64 (rd l0 a1))) else (none)) else (some (Int.tmod (wrap64 ((wrap64 (a1 * 11)) + (wrap64 ((l0.length : Int) * 3)))) 256))) = some r := h
 clear h
 by_cases c3 : a1 < (l0.length : Int)
 · rw [if_pos c3] at H
   have c3b0 : decide (a1 < (l0.length : Int)) = true := decide_eq_true c3
   clear c3
   by_cases c4 : 0 ≤ a1
   rotate_left
   · (rw [if_neg c4] at H; exact absurd H (by simp))
   rw [if_pos c4] at H
   have c4b0 : decide (0 ≤ a1) = true := decide_eq_true c4
   clear c4; obtain rfl := Option.some.inj H
   have p284 : 0 ≤ (a1 : Int) := of_decide_eq_true nQ
   have q284 : a1 < (l0.length : Int) := of_decide_eq_true nQ
   obtain ⟨ad284, e284, hx284_0⟩ := Kd.at_int HR0.out a1 p284 q284
   cases e284; replace p284 := eq_true p284; replace q284 := eq_true q284
   go_enter Tryd.func15, Tryd.ntmps15
   go_wp2; go_ret
   exact ⟨by first | rfl | (simp; done) | (simp [*]; done), by repeat (first | exact Drawn0.refl _ | apply Drawn0.step)⟩
 · rw [if_neg c3] at H
   have c3b0 : decide (a1 < (l0.length : Int)) = false := decide_eq_false c3
   clear c3; obtain rfl := Option.some.inj H
   go_enter Tryd.func15, Tryd.ntmps15
   go_wp2; go_ret
   exact ⟨by first | rfl | (simp; done) | (simp [*]; done), by repeat (first | exact Drawn0.refl _ | apply Drawn0.step)⟩
end Go.Proofs.YtdpjoblnjjkbfaaDoor.P

/- Contracts of the functions of the program, each one with its plain Lean function; written by a program of the session out of the translation. -/
import Derived.Test.YtnamdbnnijfniaaNb
import Derived.Test.YtnamdbnnijfniaaPx0
import Derived.Test.YtnamdbnnijfniaaPx15
namespace Go.Proofs.Ytnamdbnnijfniaa.P
open Go.RowKit Go.Proofs.YtnamdbnnijfniaaW.PrintWords Go.Proofs.YtnamdbnnijfniaaW.PrintLast Go.Proofs.YtnamdbnnijfniaaW.PrintMore
attribute [local go_sem] max2_int min2_int max_two min_two max_three min_three max_four min_four   -- for this text's walks alone
set_option linter.unusedVariables false
set_option linter.unusedSimpArgs false
/-! ### impl_stretched: function 39 -/
theorem impl_stretched.mono_l : ∀ k, (∀ y0 y1 y2 y3 y4 y5 y6 y7, LeO (impl_stretched.l0 k y0 y1 y2 y3 y4 y5 y6 y7) (impl_stretched.l0 (k + 1) y0 y1 y2 y3 y4 y5 y6 y7))
 | 0 => fun _ _ _ _ _ _ _ _ r h => by simp [impl_stretched.l0] at h
 | k + 1 => by
  have ih0 := impl_stretched.mono_l k
  · intro y0 y1 y2 y3 y4 y5 y6 y7
    unfold impl_stretched.l0
    repeat' first
    | (with_reducible exact ih0 _ _ _ _ _ _ _ _)
    | (with_reducible exact LeO.refl _)
    | (with_reducible exact LeO.none _)
    | (with_reducible refine LeO.ite ?_ ?_)
    | (with_reducible refine LeO.bind ?_ (fun _ => ?_))
    | exact ih0 _ _ _ _ _ _ _ _
    | exact LeO.none _
    | refine LeO.ite ?_ ?_
    | refine LeO.bind ?_ (fun _ => ?_)
theorem impl_stretched.mono : ∀ a0 a1 a2 k, LeO (impl_stretched.f k a0 a1 a2) (impl_stretched.f (k + 1) a0 a1 a2) := by
 intro a0 a1 a2 k
 have ih0 := impl_stretched.mono_l k
 unfold impl_stretched.f
 repeat' first
  | (with_reducible exact ih0 _ _ _ _ _ _ _ _)
  | (with_reducible exact LeO.refl _)
  | (with_reducible exact LeO.none _)
  | (with_reducible refine LeO.ite ?_ ?_)
  | (with_reducible refine LeO.bind ?_ (fun _ => ?_))
  | exact ih0 _ _ _ _ _ _ _ _
  | exact LeO.none _
  | refine LeO.ite ?_ ?_
  | refine LeO.bind ?_ (fun _ => ?_)
set_option maxHeartbeats 8000000 in
set_option maxRecDepth 100000 in
theorem impl_stretched.calls (k : Nat) (A0 : Option Addr) (c0 : Nat) (l0 : List (S52)) (A1 : Option Addr) (c1 : Nat) (l1 : List Int) (a2 : Int) (r : Int) (w : World) (hr0 : Kd.C k52 w A0 l0.length l0) (hc0 : l0.length ≤ c0) (hr1 : Kd.C (Kd.int .i64) w A1 l1.length l1) (hc1 : l1.length ≤ c1) (h : impl_stretched.f k l0 l1 a2 = some r) :
 Calls Try.prog 39 #[.slice A0 l0.length c0, .slice A1 l1.length c1, .int .i64 a2] w fun e w' => e = .returned (.int .i64 r) ∧ Below w.heap.size w w' := by
 have hu52 := Try.underlying52
 have HR0 := Aside0.mk hr0
 have HC0 := Aside0.mk hc0
 clear hr0 hc0
 have HR1 := Aside0.mk hr1
 have HC1 := Aside0.mk hc1
 clear hr1 hc1
 have HB := Aside0.mk (Below.refl w.heap.size w)
 have H : (impl_stretched.l0 k l0 l1 a2 0 0 l1 (l1.length : Int) 0) = some r := h
 clear h
 have H' := Aside0.mk H
 clear H
 go_enter Try.func39, Try.ntmps39
 go_wp2
 repeat (go_quiet (fail); try go_wp2)
 go_loopg [7, 8, 13] k (fun kq v7 v8 v13 w' => ∃ (x7_1 : Int) (x8_1 : Int) (x13_1 : Int), v7 = .int .i64 x7_1 ∧ v8 = .int .i64 x8_1 ∧ v13 = .int .i64 x13_1 ∧ Aside0 (impl_stretched.l0 kq l0 l1 a2 x7_1 x8_1 l1 (l1.length : Int) x13_1 = some r) ∧ Aside0 (kq ≤ k) ∧ Aside0 (Below w.heap.size w w'))
 case atStart => exact ⟨(0), (0), (0), nS, nS, nS, H', ⟨Nat.le_refl _⟩, ⟨nH HB.out⟩⟩
 case round =>
  clear H'
  try clear c1; try clear p2; try clear c3
  obtain ⟨x7_1, x8_1, x13_1, rfl, rfl, rfl, HA, HK1, HB⟩ := hrel
  cases gk with
  | zero => exact absurd HA.out (by simp [impl_stretched.l0])
  | succ k1 =>
   have H := HA.out; clear HA
   simp only [impl_stretched.l0] at H
   by_cases c4 : x13_1 < (l1.length : Int)
   · rw [if_pos c4] at H
     have c4b0 : decide (x13_1 < (l1.length : Int)) = true := decide_eq_true c4
     clear c4
     by_cases c5 : 0 ≤ x13_1
     rotate_left
     · (rw [if_neg c5] at H; exact absurd H (by simp))
     rw [if_pos c5] at H
     have c5b0 : decide (0 ≤ x13_1) = true := decide_eq_true c5
     clear c5
     by_cases c6 : x13_1 < (l1.length : Int)
     rotate_left
     · (rw [if_neg c6] at H; exact absurd H (by simp))
     rw [if_pos c6] at H
     have c6b0 : decide (x13_1 < (l1.length : Int)) = true := decide_eq_true c6
     clear c6
     by_cases c7 : x13_1 > 0
     · rw [if_pos c7] at H
       have c7b0 : decide (0 < x13_1) = true := decide_eq_true c7
       clear c7
       by_cases c8 : 0 ≤ (rd l1 x13_1)
       rotate_left
       · (rw [if_neg c8] at H; exact absurd H (by simp))
       rw [if_pos c8] at H
       have c8b0 : decide (0 ≤ (rd l1 x13_1)) = true := decide_eq_true c8
       clear c8
       by_cases c9 : (rd l1 x13_1) < (l0.length : Int)
       rotate_left
       · (rw [if_neg c9] at H; exact absurd H (by simp))
       rw [if_pos c9] at H
       have c9b0 : decide ((rd l1 x13_1) < (l0.length : Int)) = true := decide_eq_true c9
       clear c9
       obtain ⟨ji10, hji10⟩ : ∃ j_ : Int, (wrap64 (x13_1 - 1)) = j_ := ⟨_, rfl⟩
       replace H : (if 0 ≤ (ji10) then (if (ji10) < (l1.length : Int) then (if 0 ≤ (rd l1 (ji10)) then (if (rd l1 (ji10)) < (l0.length : Int) then (if (wrap64 (((rd_T52 l0 (rd l1 x13_1)).f2) - ((rd_T52 l0 (rd l1 (ji10))).f3))) ≥ a2 then ((impl_lasts.f ((rd_T52 l0 (rd l1 x13_1)).f0) ((rd_T52 l0 (rd l1 x13_1)).f1) ((rd_T52 l0 (rd l1 x13_1)).f2) ((rd_T52 l0 (rd l1 x13_1)).f3) ((rd_T52 l0 (rd l1 x13_1)).f4)).bind fun t233 => (impl_stretched.l0 k1 l0 l1 a2 (mx x7_1 (wrap64 (t233))) (wrap64 (t233)) l1 (l1.length : Int) (wrap64 (x13_1 + 1)))) else ((impl_lasts.f ((rd_T52 l0 (rd l1 x13_1)).f0) ((rd_T52 l0 (rd l1 x13_1)).f1) ((rd_T52 l0 (rd l1 x13_1)).f2) ((rd_T52 l0 (rd l1 x13_1)).f3) ((rd_T52 l0 (rd l1 x13_1)).f4)).bind fun t235 => (impl_stretched.l0 k1 l0 l1 a2 (mx x7_1 (wrap64 (x8_1 + t235))) (wrap64 (x8_1 + t235)) l1 (l1.length : Int) (wrap64 (x13_1 + 1))))) else (none)) else (none)) else (none)) else (none)) = some r := by first | (rw [hji10] at H; exact H) | (simp only [hji10] at H ⊢; exact H)
       have hji10w : (IntKind.i64.wrap (x13_1 - 1)) = ji10 := (i64_w _).trans hji10
       by_cases c11 : 0 ≤ (ji10)
       rotate_left
       · (rw [if_neg c11] at H; exact absurd H (by simp))
       rw [if_pos c11] at H
       have c11b0 : decide (0 ≤ (ji10)) = true := decide_eq_true c11
       clear c11
       by_cases c12 : (ji10) < (l1.length : Int)
       rotate_left
       · (rw [if_neg c12] at H; exact absurd H (by simp))
       rw [if_pos c12] at H
       have c12b0 : decide ((ji10) < (l1.length : Int)) = true := decide_eq_true c12
       clear c12
       by_cases c13 : 0 ≤ (rd l1 (ji10))
       rotate_left
       · (rw [if_neg c13] at H; exact absurd H (by simp))
       rw [if_pos c13] at H
       have c13b0 : decide (0 ≤ (rd l1 (ji10))) = true := decide_eq_true c13
       clear c13
       by_cases c14 : (rd l1 (ji10)) < (l0.length : Int)
       rotate_left
       · (rw [if_neg c14] at H; exact absurd H (by simp))
       rw [if_pos c14] at H
       have c14b0 : decide ((rd l1 (ji10)) < (l0.length : Int)) = true := decide_eq_true c14
       clear c14
       by_cases c15 : (wrap64 (((rd_T52 l0 (rd l1 x13_1)).f2) - ((rd_T52 l0 (rd l1 (ji10))).f3))) ≥ a2
       · rw [if_pos c15] at H
         have c15b0 : decide (a2 ≤ (wrap64 (((rd_T52 l0 (rd l1 x13_1)).f2) - ((rd_T52 l0 (rd l1 (ji10))).f3)))) = true := decide_eq_true c15
         clear c15
         replace H := Option.bind_eq_some_iff.mp H
         obtain ⟨t233, A160, H⟩ := H
         replace H : (impl_stretched.l0 k1 l0 l1 a2 (mx x7_1 (wrap64 (t233))) (wrap64 (t233)) l1 (l1.length : Int) (wrap64 (x13_1 + 1))) = some r := H
         have A16 := Aside0.mk A160
         clear A160
         obtain ⟨ji17, hji17⟩ : ∃ j_ : Int, (mx x7_1 (wrap64 (t233))) = j_ := ⟨_, rfl⟩
         replace H : (impl_stretched.l0 k1 l0 l1 a2 ji17 (wrap64 (t233)) l1 (l1.length : Int) (wrap64 (x13_1 + 1))) = some r := by first | (rw [hji17] at H; exact H) | (simp only [hji17] at H ⊢; exact H)
         (try rw [hji17] at A16)
         have hji17_ : (if x7_1 < (wrap64 (t233)) then (wrap64 (t233)) else x7_1) = ji17 := hji17
         have H' := Aside0.mk H
         clear H
         have p228 : 0 ≤ (x13_1 : Int) := of_decide_eq_true nQ
         have q228 : x13_1 < (l1.length : Int) := of_decide_eq_true nQ
         obtain ⟨ad228, e228, hx228_0⟩ := Kd.at_int HR1.out x13_1 p228 q228
         cases e228
         replace hx228_0 := (HB.out.cell (World.block_lt_of_cell? w _ hx228_0)).trans hx228_0
         replace p228 := eq_true p228; replace q228 := eq_true q228
         have p229 : 0 ≤ ((rd l1 x13_1) : Int) := of_decide_eq_true nQ
         have q229 : (rd l1 x13_1) < (l0.length : Int) := of_decide_eq_true nQ
         obtain ⟨ad229, e229, hx229_0, hx229_1, hx229_2, hx229_3, hx229_4⟩ := at_T52 HR0.out (rd l1 x13_1) p229 q229
         cases e229
         replace hx229_0 := (HB.out.cell (World.block_lt_of_cell? w _ hx229_0)).trans hx229_0
         replace hx229_1 := (HB.out.cell (World.block_lt_of_cell? w _ hx229_1)).trans hx229_1
         replace hx229_2 := (HB.out.cell (World.block_lt_of_cell? w _ hx229_2)).trans hx229_2
         replace hx229_3 := (HB.out.cell (World.block_lt_of_cell? w _ hx229_3)).trans hx229_3
         replace hx229_4 := (HB.out.cell (World.block_lt_of_cell? w _ hx229_4)).trans hx229_4
         replace p229 := eq_true p229; replace q229 := eq_true q229
         have p230 : 0 ≤ ((ji10) : Int) := of_decide_eq_true nQ
         have q230 : (ji10) < (l1.length : Int) := of_decide_eq_true nQ
         obtain ⟨ad230, e230, hx230_0⟩ := Kd.at_int HR1.out (ji10) p230 q230
         obtain rfl : ad228 = ad230 := (by injection e230)
         replace hx230_0 := (HB.out.cell (World.block_lt_of_cell? w _ hx230_0)).trans hx230_0
         replace p230 := eq_true p230; replace q230 := eq_true q230
         have p231 : 0 ≤ ((rd l1 (ji10)) : Int) := of_decide_eq_true nQ
         have q231 : (rd l1 (ji10)) < (l0.length : Int) := of_decide_eq_true nQ
         obtain ⟨ad231, e231, hx231_0, hx231_1, hx231_2, hx231_3, hx231_4⟩ := at_T52 HR0.out (rd l1 (ji10)) p231 q231
         obtain rfl : ad229 = ad231 := (by injection e231)
         replace hx231_0 := (HB.out.cell (World.block_lt_of_cell? w _ hx231_0)).trans hx231_0
         replace hx231_1 := (HB.out.cell (World.block_lt_of_cell? w _ hx231_1)).trans hx231_1
         replace hx231_2 := (HB.out.cell (World.block_lt_of_cell? w _ hx231_2)).trans hx231_2
         replace hx231_3 := (HB.out.cell (World.block_lt_of_cell? w _ hx231_3)).trans hx231_3
         replace hx231_4 := (HB.out.cell (World.block_lt_of_cell? w _ hx231_4)).trans hx231_4
         replace p231 := eq_true p231; replace q231 := eq_true q231
         have p232 : 0 ≤ ((rd l1 x13_1) : Int) := of_decide_eq_true nQ
         have q232 : (rd l1 x13_1) < (l0.length : Int) := of_decide_eq_true nQ
         obtain ⟨ad232, e232, hx232_0, hx232_1, hx232_2, hx232_3, hx232_4⟩ := at_T52 HR0.out (rd l1 x13_1) p232 q232
         obtain rfl : ad229 = ad232 := (by injection e232)
         replace hx232_0 := (HB.out.cell (World.block_lt_of_cell? w _ hx232_0)).trans hx232_0
         replace hx232_1 := (HB.out.cell (World.block_lt_of_cell? w _ hx232_1)).trans hx232_1
         replace hx232_2 := (HB.out.cell (World.block_lt_of_cell? w _ hx232_2)).trans hx232_2
         replace hx232_3 := (HB.out.cell (World.block_lt_of_cell? w _ hx232_3)).trans hx232_3
         replace hx232_4 := (HB.out.cell (World.block_lt_of_cell? w _ hx232_4)).trans hx232_4
         replace p232 := eq_true p232; replace q232 := eq_true q232
         go_wp2_with (first | (go_at_call 48; (with_reducible refine (impl_lasts.calls ((rd_T52 l0 (rd l1 x13_1)).f0) ((rd_T52 l0 (rd l1 x13_1)).f1) ((rd_T52 l0 (rd l1 x13_1)).f2) ((rd_T52 l0 (rd l1 x13_1)).f3) ((rd_T52 l0 (rd l1 x13_1)).f4) t233 _ A16.out).mono ?_); rintro e w18 ⟨rfl, hb⟩; have n0_ := Aside0.mk (below_step (nH HB.out) hb); clear HB; have HB := n0_; clear n0_; (try clear hb); (try clear hb2); (try clear hk); (try clear hi)))
         repeat (go_quiet (first | (go_at_call 48; (with_reducible refine (impl_lasts.calls ((rd_T52 l0 (rd l1 x13_1)).f0) ((rd_T52 l0 (rd l1 x13_1)).f1) ((rd_T52 l0 (rd l1 x13_1)).f2) ((rd_T52 l0 (rd l1 x13_1)).f3) ((rd_T52 l0 (rd l1 x13_1)).f4) t233 _ A16.out).mono ?_); rintro e w18 ⟨rfl, hb⟩; have n0_ := Aside0.mk (below_step (nH HB.out) hb); clear HB; have HB := n0_; clear n0_; (try clear hb); (try clear hb2); (try clear hk); (try clear hi))); try go_wp2_with (first | (go_at_call 48; (with_reducible refine (impl_lasts.calls ((rd_T52 l0 (rd l1 x13_1)).f0) ((rd_T52 l0 (rd l1 x13_1)).f1) ((rd_T52 l0 (rd l1 x13_1)).f2) ((rd_T52 l0 (rd l1 x13_1)).f3) ((rd_T52 l0 (rd l1 x13_1)).f4) t233 _ A16.out).mono ?_); rintro e w18 ⟨rfl, hb⟩; have n0_ := Aside0.mk (below_step (nH HB.out) hb); clear HB; have HB := n0_; clear n0_; (try clear hb); (try clear hb2); (try clear hk); (try clear hi))))
         go_roundg k1
         case measure => have := HK1.out; omega
         case rel => exact ⟨(ji17), (wrap64 (t233)), (wrap64 (x13_1 + 1)), (by first | rfl | (simp; done) | (simp only [← hji17] <;> (first | rfl | simp)) | (simp [*]; done)), nS, nS, H', ⟨by have := HK1.out; omega⟩, ⟨nH HB.out⟩⟩
       · rw [if_neg c15] at H
         have c15b0 : decide (a2 ≤ (wrap64 (((rd_T52 l0 (rd l1 x13_1)).f2) - ((rd_T52 l0 (rd l1 (ji10))).f3)))) = false := decide_eq_false c15
         clear c15
         replace H := Option.bind_eq_some_iff.mp H
         obtain ⟨t235, A190, H⟩ := H
         replace H : (impl_stretched.l0 k1 l0 l1 a2 (mx x7_1 (wrap64 (x8_1 + t235))) (wrap64 (x8_1 + t235)) l1 (l1.length : Int) (wrap64 (x13_1 + 1))) = some r := H
         have A19 := Aside0.mk A190
         clear A190
         obtain ⟨ji20, hji20⟩ : ∃ j_ : Int, (mx x7_1 (wrap64 (x8_1 + t235))) = j_ := ⟨_, rfl⟩
         replace H : (impl_stretched.l0 k1 l0 l1 a2 ji20 (wrap64 (x8_1 + t235)) l1 (l1.length : Int) (wrap64 (x13_1 + 1))) = some r := by first | (rw [hji20] at H; exact H) | (simp only [hji20] at H ⊢; exact H)
         (try rw [hji20] at A19)
         have hji20_ : (if x7_1 < (wrap64 (x8_1 + t235)) then (wrap64 (x8_1 + t235)) else x7_1) = ji20 := hji20
         have H' := Aside0.mk H
         clear H
         have p228 : 0 ≤ (x13_1 : Int) := of_decide_eq_true nQ
         have q228 : x13_1 < (l1.length : Int) := of_decide_eq_true nQ
         obtain ⟨ad228, e228, hx228_0⟩ := Kd.at_int HR1.out x13_1 p228 q228
         cases e228
         replace hx228_0 := (HB.out.cell (World.block_lt_of_cell? w _ hx228_0)).trans hx228_0
         replace p228 := eq_true p228; replace q228 := eq_true q228
         have p229 : 0 ≤ ((rd l1 x13_1) : Int) := of_decide_eq_true nQ
         have q229 : (rd l1 x13_1) < (l0.length : Int) := of_decide_eq_true nQ
         obtain ⟨ad229, e229, hx229_0, hx229_1, hx229_2, hx229_3, hx229_4⟩ := at_T52 HR0.out (rd l1 x13_1) p229 q229
         cases e229
         replace hx229_0 := (HB.out.cell (World.block_lt_of_cell? w _ hx229_0)).trans hx229_0
         replace hx229_1 := (HB.out.cell (World.block_lt_of_cell? w _ hx229_1)).trans hx229_1
         replace hx229_2 := (HB.out.cell (World.block_lt_of_cell? w _ hx229_2)).trans hx229_2
         replace hx229_3 := (HB.out.cell (World.block_lt_of_cell? w _ hx229_3)).trans hx229_3
         replace hx229_4 := (HB.out.cell (World.block_lt_of_cell? w _ hx229_4)).trans hx229_4
         replace p229 := eq_true p229; replace q229 := eq_true q229
         have p230 : 0 ≤ ((ji10) : Int) := of_decide_eq_true nQ
         have q230 : (ji10) < (l1.length : Int) := of_decide_eq_true nQ
         obtain ⟨ad230, e230, hx230_0⟩ := Kd.at_int HR1.out (ji10) p230 q230
         obtain rfl : ad228 = ad230 := (by injection e230)
         replace hx230_0 := (HB.out.cell (World.block_lt_of_cell? w _ hx230_0)).trans hx230_0
         replace p230 := eq_true p230; replace q230 := eq_true q230
         have p231 : 0 ≤ ((rd l1 (ji10)) : Int) := of_decide_eq_true nQ
         have q231 : (rd l1 (ji10)) < (l0.length : Int) := of_decide_eq_true nQ
         obtain ⟨ad231, e231, hx231_0, hx231_1, hx231_2, hx231_3, hx231_4⟩ := at_T52 HR0.out (rd l1 (ji10)) p231 q231
         obtain rfl : ad229 = ad231 := (by injection e231)
         replace hx231_0 := (HB.out.cell (World.block_lt_of_cell? w _ hx231_0)).trans hx231_0
         replace hx231_1 := (HB.out.cell (World.block_lt_of_cell? w _ hx231_1)).trans hx231_1
         replace hx231_2 := (HB.out.cell (World.block_lt_of_cell? w _ hx231_2)).trans hx231_2
         replace hx231_3 := (HB.out.cell (World.block_lt_of_cell? w _ hx231_3)).trans hx231_3
         replace hx231_4 := (HB.out.cell (World.block_lt_of_cell? w _ hx231_4)).trans hx231_4
         replace p231 := eq_true p231; replace q231 := eq_true q231
         have p234 : 0 ≤ ((rd l1 x13_1) : Int) := of_decide_eq_true nQ
         have q234 : (rd l1 x13_1) < (l0.length : Int) := of_decide_eq_true nQ
         obtain ⟨ad234, e234, hx234_0, hx234_1, hx234_2, hx234_3, hx234_4⟩ := at_T52 HR0.out (rd l1 x13_1) p234 q234
         obtain rfl : ad229 = ad234 := (by injection e234)
         replace hx234_0 := (HB.out.cell (World.block_lt_of_cell? w _ hx234_0)).trans hx234_0
         replace hx234_1 := (HB.out.cell (World.block_lt_of_cell? w _ hx234_1)).trans hx234_1
         replace hx234_2 := (HB.out.cell (World.block_lt_of_cell? w _ hx234_2)).trans hx234_2
         replace hx234_3 := (HB.out.cell (World.block_lt_of_cell? w _ hx234_3)).trans hx234_3
         replace hx234_4 := (HB.out.cell (World.block_lt_of_cell? w _ hx234_4)).trans hx234_4
         replace p234 := eq_true p234; replace q234 := eq_true q234
         go_wp2_with (first | (go_at_call 48; (with_reducible refine (impl_lasts.calls ((rd_T52 l0 (rd l1 x13_1)).f0) ((rd_T52 l0 (rd l1 x13_1)).f1) ((rd_T52 l0 (rd l1 x13_1)).f2) ((rd_T52 l0 (rd l1 x13_1)).f3) ((rd_T52 l0 (rd l1 x13_1)).f4) t235 _ A19.out).mono ?_); rintro e w21 ⟨rfl, hb⟩; have n0_ := Aside0.mk (below_step (nH HB.out) hb); clear HB; have HB := n0_; clear n0_; (try clear hb); (try clear hb2); (try clear hk); (try clear hi)))
         repeat (go_quiet (first | (go_at_call 48; (with_reducible refine (impl_lasts.calls ((rd_T52 l0 (rd l1 x13_1)).f0) ((rd_T52 l0 (rd l1 x13_1)).f1) ((rd_T52 l0 (rd l1 x13_1)).f2) ((rd_T52 l0 (rd l1 x13_1)).f3) ((rd_T52 l0 (rd l1 x13_1)).f4) t235 _ A19.out).mono ?_); rintro e w21 ⟨rfl, hb⟩; have n0_ := Aside0.mk (below_step (nH HB.out) hb); clear HB; have HB := n0_; clear n0_; (try clear hb); (try clear hb2); (try clear hk); (try clear hi))); try go_wp2_with (first | (go_at_call 48; (with_reducible refine (impl_lasts.calls ((rd_T52 l0 (rd l1 x13_1)).f0) ((rd_T52 l0 (rd l1 x13_1)).f1) ((rd_T52 l0 (rd l1 x13_1)).f2) ((rd_T52 l0 (rd l1 x13_1)).f3) ((rd_T52 l0 (rd l1 x13_1)).f4) t235 _ A19.out).mono ?_); rintro e w21 ⟨rfl, hb⟩; have n0_ := Aside0.mk (below_step (nH HB.out) hb); clear HB; have HB := n0_; clear n0_; (try clear hb); (try clear hb2); (try clear hk); (try clear hi))))
         go_roundg k1
         case measure => have := HK1.out; omega
         case rel => exact ⟨(ji20), (wrap64 (x8_1 + t235)), (wrap64 (x13_1 + 1)), (by first | rfl | (simp; done) | (simp only [← hji20] <;> (first | rfl | simp)) | (simp [*]; done)), nS, nS, H', ⟨by have := HK1.out; omega⟩, ⟨nH HB.out⟩⟩
     · rw [if_neg c7] at H
       have c7b0 : decide (0 < x13_1) = false := decide_eq_false c7
       clear c7
       by_cases c22 : 0 ≤ (rd l1 x13_1)
       rotate_left
       · (rw [if_neg c22] at H; exact absurd H (by simp))
       rw [if_pos c22] at H
       have c22b0 : decide (0 ≤ (rd l1 x13_1)) = true := decide_eq_true c22
       clear c22
       by_cases c23 : (rd l1 x13_1) < (l0.length : Int)
       rotate_left
       · (rw [if_neg c23] at H; exact absurd H (by simp))
       rw [if_pos c23] at H
       have c23b0 : decide ((rd l1 x13_1) < (l0.length : Int)) = true := decide_eq_true c23
       clear c23
       replace H := Option.bind_eq_some_iff.mp H
       obtain ⟨t237, A240, H⟩ := H
       replace H : (impl_stretched.l0 k1 l0 l1 a2 (mx x7_1 (wrap64 (x8_1 + t237))) (wrap64 (x8_1 + t237)) l1 (l1.length : Int) (wrap64 (x13_1 + 1))) = some r := H
       have A24 := Aside0.mk A240
       clear A240
       obtain ⟨ji25, hji25⟩ : ∃ j_ : Int, (mx x7_1 (wrap64 (x8_1 + t237))) = j_ := ⟨_, rfl⟩
       replace H : (impl_stretched.l0 k1 l0 l1 a2 ji25 (wrap64 (x8_1 + t237)) l1 (l1.length : Int) (wrap64 (x13_1 + 1))) = some r := by first | (rw [hji25] at H; exact H) | (simp only [hji25] at H ⊢; exact H)
       (try rw [hji25] at A24)
       have hji25_ : (if x7_1 < (wrap64 (x8_1 + t237)) then (wrap64 (x8_1 + t237)) else x7_1) = ji25 := hji25
       have H' := Aside0.mk H
       clear H
       have p228 : 0 ≤ (x13_1 : Int) := of_decide_eq_true nQ
       have q228 : x13_1 < (l1.length : Int) := of_decide_eq_true nQ
       obtain ⟨ad228, e228, hx228_0⟩ := Kd.at_int HR1.out x13_1 p228 q228
       cases e228
       replace hx228_0 := (HB.out.cell (World.block_lt_of_cell? w _ hx228_0)).trans hx228_0
       replace p228 := eq_true p228; replace q228 := eq_true q228
       have p236 : 0 ≤ ((rd l1 x13_1) : Int) := of_decide_eq_true nQ
       have q236 : (rd l1 x13_1) < (l0.length : Int) := of_decide_eq_true nQ
       obtain ⟨ad236, e236, hx236_0, hx236_1, hx236_2, hx236_3, hx236_4⟩ := at_T52 HR0.out (rd l1 x13_1) p236 q236
       cases e236
       replace hx236_0 := (HB.out.cell (World.block_lt_of_cell? w _ hx236_0)).trans hx236_0
       replace hx236_1 := (HB.out.cell (World.block_lt_of_cell? w _ hx236_1)).trans hx236_1
       replace hx236_2 := (HB.out.cell (World.block_lt_of_cell? w _ hx236_2)).trans hx236_2
       replace hx236_3 := (HB.out.cell (World.block_lt_of_cell? w _ hx236_3)).trans hx236_3
       replace hx236_4 := (HB.out.cell (World.block_lt_of_cell? w _ hx236_4)).trans hx236_4
       replace p236 := eq_true p236; replace q236 := eq_true q236
       go_wp2_with (first | (go_at_call 48; (with_reducible refine (impl_lasts.calls ((rd_T52 l0 (rd l1 x13_1)).f0) ((rd_T52 l0 (rd l1 x13_1)).f1) ((rd_T52 l0 (rd l1 x13_1)).f2) ((rd_T52 l0 (rd l1 x13_1)).f3) ((rd_T52 l0 (rd l1 x13_1)).f4) t237 _ A24.out).mono ?_); rintro e w26 ⟨rfl, hb⟩; have n0_ := Aside0.mk (below_step (nH HB.out) hb); clear HB; have HB := n0_; clear n0_; (try clear hb); (try clear hb2); (try clear hk); (try clear hi)))
       repeat (go_quiet (first | (go_at_call 48; (with_reducible refine (impl_lasts.calls ((rd_T52 l0 (rd l1 x13_1)).f0) ((rd_T52 l0 (rd l1 x13_1)).f1) ((rd_T52 l0 (rd l1 x13_1)).f2) ((rd_T52 l0 (rd l1 x13_1)).f3) ((rd_T52 l0 (rd l1 x13_1)).f4) t237 _ A24.out).mono ?_); rintro e w26 ⟨rfl, hb⟩; have n0_ := Aside0.mk (below_step (nH HB.out) hb); clear HB; have HB := n0_; clear n0_; (try clear hb); (try clear hb2); (try clear hk); (try clear hi))); try go_wp2_with (first | (go_at_call 48; (with_reducible refine (impl_lasts.calls ((rd_T52 l0 (rd l1 x13_1)).f0) ((rd_T52 l0 (rd l1 x13_1)).f1) ((rd_T52 l0 (rd l1 x13_1)).f2) ((rd_T52 l0 (rd l1 x13_1)).f3) ((rd_T52 l0 (rd l1 x13_1)).f4) t237 _ A24.out).mono ?_); rintro e w26 ⟨rfl, hb⟩; have n0_ := Aside0.mk (below_step (nH HB.out) hb); clear HB; have HB := n0_; clear n0_; (try clear hb); (try clear hb2); (try clear hk); (try clear hi))))
       go_roundg k1
       case measure => have := HK1.out; omega
       case rel => exact ⟨(ji25), (wrap64 (x8_1 + t237)), (wrap64 (x13_1 + 1)), (by first | rfl | (simp; done) | (simp only [← hji25] <;> (first | rfl | simp)) | (simp [*]; done)), nS, nS, H', ⟨by have := HK1.out; omega⟩, ⟨nH HB.out⟩⟩
   · rw [if_neg c4] at H
     have c4b0 : decide (x13_1 < (l1.length : Int)) = false := decide_eq_false c4
     clear c4; obtain rfl := Option.some.inj H; go_wp2
     repeat (go_quiet (fail); try go_wp2)
     go_ret
     exact ⟨by first | rfl | (simp [errW_none, errW_some] <;> rfl) | (simp [*, errW_none, errW_some] <;> first | rfl | (simp [wrap64]; done)), nH HB.out⟩
end Go.Proofs.Ytnamdbnnijfniaa.P

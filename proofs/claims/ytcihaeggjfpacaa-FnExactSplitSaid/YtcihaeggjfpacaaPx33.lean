/- Contracts of the functions of the program, each one with its plain Lean function; written by a program of the session out of the translation. -/
import Derived.Test.YtcihaeggjfpacaaNb
import Derived.Test.YtcihaeggjfpacaaPx0
import Derived.Test.YtcihaeggjfpacaaPx19
import Derived.Test.YtcihaeggjfpacaaPx26
import Derived.Test.YtcihaeggjfpacaaPx32
namespace Go.Proofs.Ytcihaeggjfpacaa.P
open Go.RowKit Go.Proofs.YtcihaeggjfpacaaW.PrintWords Go.Proofs.YtcihaeggjfpacaaW.PrintLast Go.Proofs.YtcihaeggjfpacaaW.PrintMore
attribute [local go_sem] max2_int min2_int max_two min_two max_three min_three max_four min_four   -- for this text's walks alone
set_option linter.unusedVariables false
set_option linter.unusedSimpArgs false
/-! ### impl_Through: function 33 -/
theorem impl_Through.mono : ∀ a0 a1 a2 a3 a4 a5 a6 k, LeO (impl_Through.f k a0 a1 a2 a3 a4 a5 a6) (impl_Through.f (k + 1) a0 a1 a2 a3 a4 a5 a6) := by
 intro a0 a1 a2 a3 a4 a5 a6 k
 unfold impl_Through.f
 repeat' first
  | (with_reducible exact impl_Carded.mono _ _ _ _ _ _ _ _)
  | (with_reducible exact impl_Fare.mono _ _ _ _ _ _ _)
  | (with_reducible exact impl_stopsOk.mono _ _)
  | (with_reducible exact LeO.refl _)
  | (with_reducible exact LeO.none _)
  | (with_reducible refine LeO.ite ?_ ?_)
  | (with_reducible refine LeO.bind ?_ (fun _ => ?_))
  | exact impl_Carded.mono _ _ _ _ _ _ _ _
  | exact impl_Fare.mono _ _ _ _ _ _ _
  | exact impl_stopsOk.mono _ _
  | exact LeO.none _
  | refine LeO.ite ?_ ?_
  | refine LeO.bind ?_ (fun _ => ?_)
def impl_Through.T3 : Bool × List (List Nat × List Nat) := (true, [([], []), ([], []), ([], []), ([2], [2]), ([3], [3]), ([], []), ([], []), ([6], [6]), ([7], [7]), ([5, 8], [5, 8]), ([9], [9]), ([1, 4, 10], [1, 4, 10]), ([], []), ([], []), ([0, 11, 12, 13, 11], [0, 11, 12, 13]), ([14, 14, 0, 1, 2, 3, 4, 5, 6, 7, 8, 9, 10, 11, 12, 13, 14], [14])])
def impl_Through.B3 : List Nat := [0, 0, 0, 4, 12, 0, 0, 64, 192, 480, 992, 2046, 0, 0, 16383, 32767]
theorem impl_Through.tab3 : rtab .any (opsOf Try.f33 3) = impl_Through.T3 := by kernel_rfl
theorem impl_Through.bits3 : waitsOk impl_Through.T3.2 impl_Through.B3 = true := by kernel_rfl
set_option maxHeartbeats 8000000 in
set_option maxRecDepth 100000 in
theorem impl_Through.calls (k : Nat) (a0_0 : Int) (a0_1 : Int) (A0_2 : Option Addr) (c0_2 : Nat) (l0_2 : List Int) (a0_3 : Int) (A1 : Option Addr) (c1 : Nat) (l1 : List Int) (A2 : Option Addr) (c2 : Nat) (l2 : List (S57)) (a3 : Int) (r : Int) (w : World) (hr0_2 : Kd.C (Kd.int .i64) w A0_2 l0_2.length l0_2) (hc0_2 : l0_2.length ≤ c0_2) (hr1 : Kd.C (Kd.int .i64) w A1 l1.length l1) (hc1 : l1.length ≤ c1) (hr2 : Kd.C k57 w A2 l2.length l2) (hc2 : l2.length ≤ c2) (h : impl_Through.f k a0_0 a0_1 l0_2 a0_3 l1 l2 a3 = some r) :
 Calls Try.prog 33 #[.agg #[.int .i64 a0_0, .int .i64 a0_1, .slice A0_2 l0_2.length c0_2, .int .i64 a0_3], .slice A1 l1.length c1, .slice A2 l2.length c2, .int .i64 a3] w fun e w' => e = .returned (.int .i64 r) ∧ Below w.heap.size w w' := by
 have hu34 := Try.underlying34
 have HR0_2 := Aside0.mk hr0_2
 have HC0_2 := Aside0.mk hc0_2
 clear hr0_2 hc0_2
 have HR1 := Aside0.mk hr1
 have HC1 := Aside0.mk hc1
 clear hr1 hc1
 have HR2 := Aside0.mk hr2
 have HC2 := Aside0.mk hc2
 clear hr2 hc2
 have HB := Aside0.mk (Below.refl w.heap.size w)
 have H : ((impl_stopsOk.f k l1).bind fun t449 => (if t449 = true then (if 0 < (l1.length : Int) then (if 0 ≤ (wrap64 ((l1.length : Int) - 1)) then (if (wrap64 ((l1.length : Int) - 1)) < (l1.length : Int) then ((impl_Fare.f k a0_0 a0_1 l0_2 a0_3 (rd l1 0) (rd l1 (wrap64 ((l1.length : Int) - 1)))).bind fun t452 => ((impl_Carded.f k a0_0 a0_1 l0_2 a0_3 t452 l2 a3).bind fun t453 => (some t453))) else (none)) else (none)) else (none)) else (some (-1)))) = some r := h
 clear h
 replace H := Option.bind_eq_some_iff.mp H
 obtain ⟨t449, A50, H⟩ := H
 replace H : (if t449 = true then (if 0 < (l1.length : Int) then (if 0 ≤ (wrap64 ((l1.length : Int) - 1)) then (if (wrap64 ((l1.length : Int) - 1)) < (l1.length : Int) then ((impl_Fare.f k a0_0 a0_1 l0_2 a0_3 (rd l1 0) (rd l1 (wrap64 ((l1.length : Int) - 1)))).bind fun t452 => ((impl_Carded.f k a0_0 a0_1 l0_2 a0_3 t452 l2 a3).bind fun t453 => (some t453))) else (none)) else (none)) else (none)) else (some (-1))) = some r := H
 have A5 := Aside0.mk A50
 clear A50
 by_cases c6 : t449 = true
 · subst c6
   have H1 : (if 0 < (l1.length : Int) then (if 0 ≤ (wrap64 ((l1.length : Int) - 1)) then (if (wrap64 ((l1.length : Int) - 1)) < (l1.length : Int) then ((impl_Fare.f k a0_0 a0_1 l0_2 a0_3 (rd l1 0) (rd l1 (wrap64 ((l1.length : Int) - 1)))).bind fun t452 => ((impl_Carded.f k a0_0 a0_1 l0_2 a0_3 t452 l2 a3).bind fun t453 => (some t453))) else (none)) else (none)) else (none)) = some r := by rw [if_pos rfl] at H; exact H
   clear H; have H := H1; clear H1
   by_cases c7 : 0 < (l1.length : Int)
   rotate_left
   · (rw [if_neg c7] at H; exact absurd H (by simp))
   rw [if_pos c7] at H
   have c7b0 : decide (0 < (l1.length : Int)) = true := decide_eq_true c7
   have c7b1 : decide (0 < l1.length) = true := decide_eq_true (by omega)
   clear c7
   obtain ⟨ji8, hji8⟩ : ∃ j_ : Int, (wrap64 ((l1.length : Int) - 1)) = j_ := ⟨_, rfl⟩
   replace H : (if 0 ≤ (ji8) then (if (ji8) < (l1.length : Int) then ((impl_Fare.f k a0_0 a0_1 l0_2 a0_3 (rd l1 0) (rd l1 (ji8))).bind fun t452 => ((impl_Carded.f k a0_0 a0_1 l0_2 a0_3 t452 l2 a3).bind fun t453 => (some t453))) else (none)) else (none)) = some r := by first | (rw [hji8] at H; exact H) | (simp only [hji8] at H ⊢; exact H)
   (try rw [hji8] at A5)
   have hji8w : (IntKind.i64.wrap ((l1.length : Int) - 1)) = ji8 := (i64_w _).trans hji8
   by_cases c9 : 0 ≤ (ji8)
   rotate_left
   · (rw [if_neg c9] at H; exact absurd H (by simp))
   rw [if_pos c9] at H
   have c9b0 : decide (0 ≤ (ji8)) = true := decide_eq_true c9
   clear c9
   by_cases c10 : (ji8) < (l1.length : Int)
   rotate_left
   · (rw [if_neg c10] at H; exact absurd H (by simp))
   rw [if_pos c10] at H
   have c10b0 : decide ((ji8) < (l1.length : Int)) = true := decide_eq_true c10
   clear c10
   replace H := Option.bind_eq_some_iff.mp H
   obtain ⟨t452, A110, H⟩ := H
   replace H : ((impl_Carded.f k a0_0 a0_1 l0_2 a0_3 t452 l2 a3).bind fun t453 => (some t453)) = some r := H
   have A11 := Aside0.mk A110
   clear A110
   replace H := Option.bind_eq_some_iff.mp H
   obtain ⟨t453, A120, H⟩ := H
   replace H : (some t453) = some r := H
   have A12 := Aside0.mk A120
   clear A120; obtain rfl := Option.some.inj H
   go_enter Try.func33, Try.ntmps33
   try go_wp2_with (first | ((with_reducible refine gate_dst (N := 4) rfl ?_); refine box_event ?hg (N := 4) ?hd (cs := #[.int .i64 a0_0, .int .i64 a0_1, .slice A0_2 l0_2.length c0_2, .int .i64 a0_3]) (t := 34) ?hr ?_; (case hd => rfl); (case hg => rfl); (case hr => first | (go_simp; done) | (go_simp; rfl)); intro gb448 hg w13 hbox hb; have n0_ := Aside0.mk (below_step (nH HB.out) hb); have n1_ := Aside0.mk (hbox); have n2_ := Aside0.mk ((by rw [hg]; exact (below_size (nH HB.out)) : w.heap.size ≤ gb448)); have n3_ := Aside0.mk ((by rw [hg]; exact (below_size (nH HB.out)) : w.heap.size ≤ gb448)); clear HB; have HB := n0_; have BK448 := n1_; have GW448 := n2_; have GE448 := n3_; clear n0_ n1_ n2_ n3_; clear hb hbox hg) | ((with_reducible refine gate_callee (f := 55) rfl ?_); refine goesL_ (some 10) rfl rfl Try.func55 (by kernel_rfl) rfl #[.slice A1 l1.length c1] rfl (by (try simp only [List.map_toArray, List.map_cons, List.map_nil]); first | done | rfl | (simp only [List.length_drop, List.length_take]; rfl)) ?_; (with_reducible refine (impl_stopsOk.calls k _ _ l1 true _ ?side1 ?side2 A5.out).mono ?_); (case side1 => repeat (first | exact (Kd.C_below HR1.out HB.out) | (with_reducible refine Kd.C_alloc ?_ _) | (with_reducible refine Kd.C_drewN ?_ _) | (with_reducible refine Kd.C_drew ?_))); (case side2 => exact HC1.out); rintro e w' ⟨rfl, ⟨nd, rfl⟩⟩; refine ⟨_, rfl, ?_⟩))
   (try (rw [drewN_self w13]; generalize hq_ : World.drewN w13 _ = w13; have n0_ : Aside0 (w13.heap[gb448]? = some (.cells #[.int .i64 a0_0, .int .i64 a0_1, .slice A0_2 l0_2.length c0_2, .int .i64 a0_3] 34 (0, 0))) := ⟨by rw [← hq_]; exact (nB BK448.out)⟩; have n1_ : Aside0 (Below w.heap.size w w13) := ⟨by rw [← hq_]; exact (nH1 HB.out GE448.out)⟩; clear BK448 HB hq_; have BK448 := n0_; have HB := n1_; clear n0_ n1_))
   have n0_ := Aside0.mk (blk_drew BK448.out)
   have n1_ := Aside0.mk (below_drew1 HB.out)
   clear BK448; clear HB; have BK448 := n0_; have HB := n1_; clear n0_ n1_
   have p450 : 0 ≤ (0 : Int) := (by omega)
   have q450 : 0 < (l1.length : Int) := of_decide_eq_true nQ
   obtain ⟨ad450, e450, hx450_0⟩ := Kd.at_int HR1.out 0 p450 q450
   have hw450_0 := hx450_0
   (try rw [show ((0 : Int)).toNat = 0 from rfl] at hw450_0)
   (try rw [show 0 * 1 = 0 from rfl] at hw450_0)
   (try rw [Addr.add_zero'] at hw450_0)
   cases e450
   have qi450 : (0 < l1.length) = True := eq_true (by omega)
   (try rw [show ((0 : Int)).toNat = 0 from rfl] at hx450_0)
   (try rw [Addr.add_zero'] at hx450_0)
   replace hx450_0 := (HB.out.cell (World.block_lt_of_cell? w _ hx450_0)).trans hx450_0
   replace p450 := eq_true p450; replace q450 := eq_true q450
   have p451 : 0 ≤ ((ji8) : Int) := of_decide_eq_true nQ
   have q451 : (ji8) < (l1.length : Int) := of_decide_eq_true nQ
   obtain ⟨ad451, e451, hx451_0⟩ := Kd.at_int HR1.out (ji8) p451 q451
   have hw451_0 := hx451_0
   obtain rfl : ad450 = ad451 := (by injection e451)
   replace hx451_0 := (HB.out.cell (World.block_lt_of_cell? w _ hx451_0)).trans hx451_0
   replace p451 := eq_true p451; replace q451 := eq_true q451
   refine start_ (n := 16) (S := fun w' => w'.cell? ⟨gb448, 0, none⟩ = some (.int .i64 a0_0) ∧ w'.cell? ⟨gb448, 1, none⟩ = some (.int .i64 a0_1) ∧ w'.cell? ⟨gb448, 2, none⟩ = some (.slice A0_2 l0_2.length c0_2) ∧ w'.cell? ⟨gb448, 3, none⟩ = some (.int .i64 a0_3) ∧ w'.cell? ad450 = some (.int .i64 (rd l1 0)) ∧ w'.cell? (ad450.add ((ji8)).toNat) = some (.int .i64 (rd l1 (ji8)))) (ds := []) #[F,F,F,F,F,F,F,F,F,F,F,F,F,F,F,F] (by kernel_rfl) rfl rfl ⟨(blk_cell BK448.out 0).trans rfl, (blk_cell BK448.out 1).trans rfl, (blk_cell BK448.out 2).trans rfl, (blk_cell BK448.out 3).trans rfl, (nC HB.out hw450_0 :), (nC HB.out hw451_0 :)⟩ (fun hHeld => ?_); refine with_tabW impl_Through.tab3 impl_Through.bits3 (fun HT_ HW_ => ?_)
   generalize w13.drew = w14 at BK448 HB hx450_0 hx451_0 hHeld ⊢
   refine pU 2 (some 14) #[F,F,T,F,F,F,F,F,F,F,F,F,F,F,F,F] rfl rfl HT_.out ?_
   refine pU 3 (some 15) #[F,F,T,T,F,F,F,F,F,F,F,F,F,F,F,F] rfl rfl HT_.out ?_
   refine pU 5 (some 17) #[F,F,T,T,F,T,F,F,F,F,F,F,F,F,F,F] rfl rfl HT_.out ?_
   refine pU 6 (some 18) #[F,F,T,T,F,T,T,F,F,F,F,F,F,F,F,F] rfl rfl HT_.out ?_
   refine pU 7 (some 19) #[F,F,T,T,F,T,T,T,F,F,F,F,F,F,F,F] rfl rfl HT_.out ?_
   refine pU 8 (some 20) #[F,F,T,T,F,T,T,T,T,F,F,F,F,F,F,F] rfl rfl HT_.out ?_
   refine pU 9 (some 21) #[F,F,T,T,F,T,T,T,T,T,F,F,F,F,F,F] rfl rfl HT_.out ?_
   refine pU 12 (some 24) #[F,F,T,T,F,T,T,T,T,T,F,F,T,F,F,F] rfl rfl HT_.out ?_
   refine pU 13 (some 25) #[F,F,T,T,F,T,T,T,T,T,F,F,T,T,F,F] rfl rfl HT_.out ?_
   refine tU6 0 (some 12) #[T,F,T,T,F,T,T,T,T,T,F,F,T,T,F,F] rfl rfl HT_.out HW_.out hHeld ?_
   refine tU6 1 (some 13) #[T,T,T,T,F,T,T,T,T,T,F,F,T,T,F,F] rfl rfl HT_.out HW_.out hHeld ?_
   refine tU6 4 (some 16) #[T,T,T,T,T,T,T,T,T,T,F,F,T,T,F,F] rfl rfl HT_.out HW_.out hHeld ?_
   refine tU6 10 (some 22) #[T,T,T,T,T,T,T,T,T,T,T,F,T,T,F,F] rfl rfl HT_.out HW_.out hHeld ?_
   refine one_ (i := 11) (N := some 23) #[T,T,T,T,T,T,T,T,T,T,T,T,T,T,F,F] rfl rfl (one_of HT_.out (by kernel_rfl)) (by decide) (fun K hK => ?_)
   refine goes_ Try.func25 (by kernel_rfl) rfl #[.agg #[.int .i64 a0_0, .int .i64 a0_1, .slice A0_2 l0_2.length c0_2, .int .i64 a0_3], .int .i64 (rd l1 0), .int .i64 (rd l1 (ji8))] (by rfl) rfl rfl (by (try simp only [List.map_toArray, List.map_cons, List.map_nil]); first | done | (simp only [hji8]; rfl) | rfl | (simp only [List.length_drop, List.length_take]; rfl)) ?_
   with_reducible refine (impl_Fare.calls k a0_0 a0_1 _ _ l0_2 a0_3 (rd l1 0) (rd l1 (ji8)) t452 _ ?side1 ?side2 A11.out).mono ?_
   (case side1 => repeat (first | exact (Kd.C_below HR0_2.out HB.out) | (with_reducible refine Kd.C_alloc ?_ _) | (with_reducible refine Kd.C_drewN ?_ _) | (with_reducible refine Kd.C_drew ?_)))
   (case side2 => exact HC0_2.out)
   rintro e w15 ⟨rfl, hb⟩
   refine ⟨_, rfl, ?_⟩
   have n0_ := Aside0.mk (blk_below (g := gb448) (o := .cells #[.int .i64 a0_0, .int .i64 a0_1, .slice A0_2 l0_2.length c0_2, .int .i64 a0_3] 34 (0, 0)) (nB BK448.out) hb)
   have n1_ := Aside0.mk (below_step (nH1 HB.out GE448.out) hb)
   clear BK448; clear HB; have BK448 := n0_; have HB := n1_; clear n0_ n1_; (try clear hb); (try clear hb2); (try clear hk); (try clear hi)
   refine hK.out _ _ ⟨(blk_cell BK448.out 0).trans rfl, (blk_cell BK448.out 1).trans rfl, (blk_cell BK448.out 2).trans rfl, (blk_cell BK448.out 3).trans rfl, (nC HB.out hw450_0 :), (nC HB.out hw451_0 :)⟩ (fun hHeld => ?_)
   clear hK K
   refine norm_ (a' := ?_) ?_ ?_
   rotate_left
   · show Act.put _ (some 23) _ = _
     simp only [Act.put, List.setIfInBounds_toArray, List.set_cons_zero, List.set_cons_succ, i64_w, i32_w]
     rfl
   refine one_ (i := 14) (N := some 26) #[T,T,T,T,T,T,T,T,T,T,T,T,T,T,T,F] rfl rfl (one_of HT_.out (by kernel_rfl)) (by decide) (fun K hK => ?_)
   refine goes_ Try.func29 (by kernel_rfl) rfl #[.agg #[.int .i64 a0_0, .int .i64 a0_1, .slice A0_2 l0_2.length c0_2, .int .i64 a0_3], .int .i64 t452, .slice A2 l2.length c2, .int .i64 a3] (by rfl) rfl rfl (by (try simp only [List.map_toArray, List.map_cons, List.map_nil]); first | done | rfl | (simp only [List.length_drop, List.length_take]; rfl)) ?_
   with_reducible refine (impl_Carded.calls k a0_0 a0_1 _ _ l0_2 a0_3 t452 _ _ l2 a3 t453 _ ?side1 ?side2 ?side3 ?side4 A12.out).mono ?_
   (case side1 => repeat (first | exact (Kd.C_below HR0_2.out HB.out) | (with_reducible refine Kd.C_alloc ?_ _) | (with_reducible refine Kd.C_drewN ?_ _) | (with_reducible refine Kd.C_drew ?_)))
   (case side2 => exact HC0_2.out)
   (case side3 => repeat (first | exact (Kd.C_below HR2.out HB.out) | (with_reducible refine Kd.C_alloc ?_ _) | (with_reducible refine Kd.C_drewN ?_ _) | (with_reducible refine Kd.C_drew ?_)))
   (case side4 => exact HC2.out)
   rintro e w16 ⟨rfl, hb⟩
   refine ⟨_, rfl, ?_⟩
   have n0_ := Aside0.mk (blk_below (g := gb448) (o := .cells #[.int .i64 a0_0, .int .i64 a0_1, .slice A0_2 l0_2.length c0_2, .int .i64 a0_3] 34 (0, 0)) (nB BK448.out) hb)
   have n1_ := Aside0.mk (below_step (nH1 HB.out GE448.out) hb)
   clear BK448; clear HB; have BK448 := n0_; have HB := n1_; clear n0_ n1_; (try clear hb); (try clear hb2); (try clear hk); (try clear hi)
   refine hK.out _ _ ⟨(blk_cell BK448.out 0).trans rfl, (blk_cell BK448.out 1).trans rfl, (blk_cell BK448.out 2).trans rfl, (blk_cell BK448.out 3).trans rfl, (nC HB.out hw450_0 :), (nC HB.out hw451_0 :)⟩ (fun hHeld => ?_)
   clear hK K
   refine norm_ (a' := ?_) ?_ ?_
   rotate_left
   · show Act.put _ (some 26) _ = _
     simp only [Act.put, List.setIfInBounds_toArray, List.set_cons_zero, List.set_cons_succ, i64_w, i32_w]
     rfl
   refine pU 15 (some 8) #[T,T,T,T,T,T,T,T,T,T,T,T,T,T,T,T] rfl rfl HT_.out ?_
   refine done_ (done_of HT_.out (by kernel_rfl)) ?_
   try go_wp2
   go_ret
   exact ⟨by first | rfl | (simp [errW_none, errW_some] <;> rfl) | (simp only [← hji8]; first | rfl | (simp [errW_none, errW_some] <;> rfl)) | (simp [*, errW_none, errW_some] <;> first | rfl | (simp [wrap64]; done)), nH1 HB.out GE448.out⟩
 · replace c6 := Bool.eq_false_iff.mpr c6
   subst c6
   have H1 : (some (-1)) = some r := by rw [if_neg (show ¬ (false = true) by decide)] at H; exact H
   clear H; have H := H1; clear H1; obtain rfl := Option.some.inj H
   go_enter Try.func33, Try.ntmps33
   go_wp2_with (first | ((with_reducible refine gate_dst (N := 4) rfl ?_); refine box_event ?hg (N := 4) ?hd (cs := #[.int .i64 a0_0, .int .i64 a0_1, .slice A0_2 l0_2.length c0_2, .int .i64 a0_3]) (t := 34) ?hr ?_; (case hd => rfl); (case hg => rfl); (case hr => first | (go_simp; done) | (go_simp; rfl)); intro gb448 hg w17 hbox hb; have n0_ := Aside0.mk (below_step (nH HB.out) hb); have n1_ := Aside0.mk (hbox); have n2_ := Aside0.mk ((by rw [hg]; exact (below_size (nH HB.out)) : w.heap.size ≤ gb448)); have n3_ := Aside0.mk ((by rw [hg]; exact (below_size (nH HB.out)) : w.heap.size ≤ gb448)); clear HB; have HB := n0_; have BK448 := n1_; have GW448 := n2_; have GE448 := n3_; clear n0_ n1_ n2_ n3_; clear hb hbox hg) | ((with_reducible refine gate_callee (f := 55) rfl ?_); refine goesL_ (some 10) rfl rfl Try.func55 (by kernel_rfl) rfl #[.slice A1 l1.length c1] rfl (by (try simp only [List.map_toArray, List.map_cons, List.map_nil]); first | done | rfl | (simp only [List.length_drop, List.length_take]; rfl)) ?_; (with_reducible refine (impl_stopsOk.calls k _ _ l1 false _ ?side1 ?side2 A5.out).mono ?_); (case side1 => repeat (first | exact (Kd.C_below HR1.out HB.out) | (with_reducible refine Kd.C_alloc ?_ _) | (with_reducible refine Kd.C_drewN ?_ _) | (with_reducible refine Kd.C_drew ?_))); (case side2 => exact HC1.out); rintro e w' ⟨rfl, ⟨nd, rfl⟩⟩; refine ⟨_, rfl, ?_⟩))
   go_ret
   exact ⟨by first | rfl | (simp [errW_none, errW_some] <;> rfl) | (simp [*, errW_none, errW_some] <;> first | rfl | (simp [wrap64]; done)), nH1 HB.out GE448.out⟩
end Go.Proofs.Ytcihaeggjfpacaa.P

/- Contracts of the functions of the program, each one with its plain Lean function; written by a program of the session out of the translation. -/
import Derived.Test.YtdpjoblnjjkbfaaDoorNb
import Derived.Test.YtdpjoblnjjkbfaaDoorPx0
import Derived.Test.YtdpjoblnjjkbfaaDoorPx25
namespace Go.Proofs.YtdpjoblnjjkbfaaDoor.P
open Go.RowKit Go.Proofs.YtdpjoblnjjkbfaaDoorW.PrintWords Go.Proofs.YtdpjoblnjjkbfaaDoorW.PrintLast Go.Proofs.YtdpjoblnjjkbfaaDoorW.PrintMore
attribute [local go_sem] max2_int min2_int max_two min_two max_three min_three max_four min_four   -- for this text's walks alone
set_option linter.unusedVariables false
set_option linter.unusedSimpArgs false
/-! ### laws_eqTripS: function 11 -/
theorem laws_eqTripS.mono_l : ∀ k, (∀ y0 y1 y2, LeO (laws_eqTripS.l0 k y0 y1 y2) (laws_eqTripS.l0 (k + 1) y0 y1 y2))
 | 0 => fun _ _ _ r h => by simp [laws_eqTripS.l0] at h
 | k + 1 => by
  have ih0 := laws_eqTripS.mono_l k
  · intro y0 y1 y2
    unfold laws_eqTripS.l0
    repeat' first
    | (with_reducible exact ih0 _ _ _)
    | (with_reducible exact laws_eqTrip.mono _ _ _ _ _)
    | (with_reducible exact LeO.refl _)
    | (with_reducible exact LeO.none _)
    | (with_reducible refine LeO.ite ?_ ?_)
    | (with_reducible refine LeO.bind ?_ (fun _ => ?_))
    | exact ih0 _ _ _
    | exact laws_eqTrip.mono _ _ _ _ _
    | exact LeO.none _
    | refine LeO.ite ?_ ?_
    | refine LeO.bind ?_ (fun _ => ?_)
theorem laws_eqTripS.mono : ∀ a0 a1 k, LeO (laws_eqTripS.f k a0 a1) (laws_eqTripS.f (k + 1) a0 a1) := by
 intro a0 a1 k
 have ih0 := laws_eqTripS.mono_l k
 unfold laws_eqTripS.f
 repeat' first
  | (with_reducible exact ih0 _ _ _)
  | (with_reducible exact laws_eqTrip.mono _ _ _ _ _)
  | (with_reducible exact LeO.refl _)
  | (with_reducible exact LeO.none _)
  | (with_reducible refine LeO.ite ?_ ?_)
  | (with_reducible refine LeO.bind ?_ (fun _ => ?_))
  | exact ih0 _ _ _
  | exact laws_eqTrip.mono _ _ _ _ _
  | exact LeO.none _
  | refine LeO.ite ?_ ?_
  | refine LeO.bind ?_ (fun _ => ?_)
def laws_eqTripS.T6 : Bool × List (List Nat × List Nat) := (true, [([], []), ([], []), ([0, 1], [0, 1]), ([2], [2]), ([], []), ([], []), ([4, 5], [4, 5]), ([6], [6]), ([3, 7], [3, 7]), ([8], [8])])
def laws_eqTripS.B6 : List Nat := [0, 0, 3, 7, 0, 0, 48, 112, 255, 511]
theorem laws_eqTripS.tab6 : rtab .any (opsOf Tryd.f11 6) = laws_eqTripS.T6 := by kernel_rfl
theorem laws_eqTripS.bits6 : waitsOk laws_eqTripS.T6.2 laws_eqTripS.B6 = true := by kernel_rfl
set_option maxHeartbeats 8000000 in
set_option maxRecDepth 100000 in
theorem laws_eqTripS.calls (k : Nat) (A0 : Option Addr) (c0 : Nat) (l0 : List (S46)) (A1 : Option Addr) (c1 : Nat) (l1 : List (S46)) (r : Bool) (w : World) (hr0 : Kd.C k46 w A0 l0.length l0) (hc0 : l0.length ≤ c0) (hr1 : Kd.C k46 w A1 l1.length l1) (hc1 : l1.length ≤ c1) (h : laws_eqTripS.f k l0 l1 = some r) :
 Calls Tryd.prog 11 #[.slice A0 l0.length c0, .slice A1 l1.length c1] w fun e w' => e = .returned (.bool r) ∧ Below w.heap.size w w' := by
 have hu46 := Tryd.underlying46
 have HR0 := Aside0.mk hr0
 have HC0 := Aside0.mk hc0
 clear hr0 hc0
 have HR1 := Aside0.mk hr1
 have HC1 := Aside0.mk hc1
 clear hr1 hc1
 have HB := Aside0.mk (Below.refl w.heap.size w)
 have H : (if (l0.length : Int) = (l1.length : Int) then (laws_eqTripS.l0 k l0 l1 0) else (some false)) = some r := h
 clear h
 by_cases c3 : (l0.length : Int) = (l1.length : Int)
 · rw [if_pos c3] at H
   have c3b0 : ((l0.length : Int) == (l1.length : Int)) = true := beq_iff_eq.mpr c3
   have c3b1 : ((l0.length : Int) != (l1.length : Int)) = false := bne_eq_false_iff_eq.mpr c3
   have c3b2 : (l0.length == l1.length) = true := by first | simpa using c3 | (simp at c3 ⊢; omega)
   clear c3
   have H' := Aside0.mk H
   clear H
   go_enter Tryd.func11, Tryd.ntmps11
   go_wp2
   go_loopg [5] k (fun kq v5 w' => ∃ (x5_1 : Int), v5 = .int .i64 x5_1 ∧ Aside0 (laws_eqTripS.l0 kq l0 l1 x5_1 = some r) ∧ Aside0 (kq ≤ k) ∧ Aside0 (Below w.heap.size w w'))
   case atStart => exact ⟨(0), nS, H', ⟨Nat.le_refl _⟩, ⟨nH HB.out⟩⟩
   case round =>
    clear H'
    try clear c1; try clear p2; try clear c3; try clear c3b0; try clear c3b1; try clear c3b2
    obtain ⟨x5_1, rfl, HA, HK1, HB⟩ := hrel
    cases gk with
    | zero => exact absurd HA.out (by simp [laws_eqTripS.l0])
    | succ k1 =>
     have H := HA.out; clear HA
     simp only [laws_eqTripS.l0] at H
     by_cases c4 : x5_1 < (l0.length : Int)
     · rw [if_pos c4] at H
       have c4b0 : decide (x5_1 < (l0.length : Int)) = true := decide_eq_true c4
       clear c4
       by_cases c5 : 0 ≤ x5_1
       rotate_left
       · (rw [if_neg c5] at H; exact absurd H (by simp))
       rw [if_pos c5] at H
       have c5b0 : decide (0 ≤ x5_1) = true := decide_eq_true c5
       clear c5
       by_cases c6 : x5_1 < (l1.length : Int)
       rotate_left
       · (rw [if_neg c6] at H; exact absurd H (by simp))
       rw [if_pos c6] at H
       have c6b0 : decide (x5_1 < (l1.length : Int)) = true := decide_eq_true c6
       clear c6
       replace H := Option.bind_eq_some_iff.mp H
       obtain ⟨t264, A70, H⟩ := H
       replace H : (if t264 = true then (laws_eqTripS.l0 k1 l0 l1 (wrap64 (x5_1 + 1))) else (some false)) = some r := H
       have A7 := Aside0.mk A70
       clear A70
       by_cases c8 : t264 = true
       · subst c8
         have H1 : (laws_eqTripS.l0 k1 l0 l1 (wrap64 (x5_1 + 1))) = some r := by rw [if_pos rfl] at H; exact H
         clear H; have H := H1; clear H1
         have H' := Aside0.mk H
         clear H
         try go_wp2
         have n0_ := Aside0.mk (below_drew1 HB.out)
         clear HB; have HB := n0_; clear n0_
         have p262 : 0 ≤ (x5_1 : Int) := of_decide_eq_true nQ
         have q262 : x5_1 < (l0.length : Int) := of_decide_eq_true nQ
         obtain ⟨ad262, A262_1, c262_1, e262, hx262_0, hx262_1, hl262_1, hi262_1⟩ := at_T46 HR0.out x5_1 p262 q262
         have hw262_1 := hx262_1; have hw262_0 := hx262_0; cases e262
         replace hx262_0 := (HB.out.cell (World.block_lt_of_cell? w _ hx262_0)).trans hx262_0
         replace hx262_1 := (HB.out.cell (World.block_lt_of_cell? w _ hx262_1)).trans hx262_1
         have HR262_1 := Aside0.mk hi262_1
         have HC262_1 := Aside0.mk hl262_1
         clear hi262_1 hl262_1; replace p262 := eq_true p262; replace q262 := eq_true q262
         have p263 : 0 ≤ (x5_1 : Int) := of_decide_eq_true nQ
         have q263 : x5_1 < (l1.length : Int) := of_decide_eq_true nQ
         obtain ⟨ad263, A263_1, c263_1, e263, hx263_0, hx263_1, hl263_1, hi263_1⟩ := at_T46 HR1.out x5_1 p263 q263
         have hw263_1 := hx263_1; have hw263_0 := hx263_0; cases e263
         replace hx263_0 := (HB.out.cell (World.block_lt_of_cell? w _ hx263_0)).trans hx263_0
         replace hx263_1 := (HB.out.cell (World.block_lt_of_cell? w _ hx263_1)).trans hx263_1
         have HR263_1 := Aside0.mk hi263_1
         have HC263_1 := Aside0.mk hl263_1
         clear hi263_1 hl263_1; replace p263 := eq_true p263; replace q263 := eq_true q263
         refine start_ (n := 10) (S := fun w' => w'.cell? (ad262.add ((x5_1).toNat * 2)) = some (.string ((rd_T46 l0 x5_1).f0)) ∧ w'.cell? ⟨(ad262.add ((x5_1).toNat * 2)).block, (ad262.add ((x5_1).toNat * 2)).off + 1, none⟩ = some (.slice A262_1 ((rd_T46 l0 x5_1).f1).length c262_1) ∧ w'.cell? (ad263.add ((x5_1).toNat * 2)) = some (.string ((rd_T46 l1 x5_1).f0)) ∧ w'.cell? ⟨(ad263.add ((x5_1).toNat * 2)).block, (ad263.add ((x5_1).toNat * 2)).off + 1, none⟩ = some (.slice A263_1 ((rd_T46 l1 x5_1).f1).length c263_1)) (ds := []) #[F,F,F,F,F,F,F,F,F,F] (by kernel_rfl) rfl rfl ⟨(nC HB.out hw262_0 :), (nC HB.out hw262_1 :), (nC HB.out hw263_0 :), (nC HB.out hw263_1 :)⟩ (fun hHeld => ?_); refine with_tabW laws_eqTripS.tab6 laws_eqTripS.bits6 (fun HT_ HW_ => ?_)
         generalize wr.drew = w9 at HB HR262_1 HR263_1 hx262_0 hx262_1 hx263_0 hx263_1 hHeld ⊢
         refine pU 0 (some 17) #[T,F,F,F,F,F,F,F,F,F] rfl rfl HT_.out ?_
         refine pU 1 (some 18) #[T,T,F,F,F,F,F,F,F,F] rfl rfl HT_.out ?_
         refine pU 2 (some 19) #[T,T,T,F,F,F,F,F,F,F] rfl rfl HT_.out ?_
         refine pU 4 (some 21) #[T,T,T,F,T,F,F,F,F,F] rfl rfl HT_.out ?_
         refine pU 5 (some 22) #[T,T,T,F,T,T,F,F,F,F] rfl rfl HT_.out ?_
         refine pU 6 (some 23) #[T,T,T,F,T,T,T,F,F,F] rfl rfl HT_.out ?_
         refine tU4 3 (some 20) #[T,T,T,T,T,T,T,F,F,F] rfl rfl HT_.out HW_.out hHeld ?_
         refine tU4 7 (some 24) #[T,T,T,T,T,T,T,T,F,F] rfl rfl HT_.out HW_.out hHeld ?_
         refine one_ (i := 8) (N := some 25) #[T,T,T,T,T,T,T,T,T,F] rfl rfl (one_of HT_.out (by kernel_rfl)) (by decide) (fun K hK => ?_)
         refine goes_ Tryd.func28 (by kernel_rfl) rfl #[.agg #[.string ((rd_T46 l0 x5_1).f0), .slice A262_1 ((rd_T46 l0 x5_1).f1).length c262_1], .agg #[.string ((rd_T46 l1 x5_1).f0), .slice A263_1 ((rd_T46 l1 x5_1).f1).length c263_1]] (by rfl) rfl rfl (by (try simp only [List.map_toArray, List.map_cons, List.map_nil]); first | done | rfl | (simp only [List.length_drop, List.length_take]; rfl)) ?_
         with_reducible refine (laws_eqTrip.calls k1 ((rd_T46 l0 x5_1).f0) _ _ ((rd_T46 l0 x5_1).f1) ((rd_T46 l1 x5_1).f0) _ _ ((rd_T46 l1 x5_1).f1) true _ ?side1 ?side2 ?side3 ?side4 A7.out).mono ?_
         (case side1 => repeat (first | exact (Kd.C_below HR262_1.out HB.out) | (with_reducible refine Kd.C_alloc ?_ _) | (with_reducible refine Kd.C_drewN ?_ _) | (with_reducible refine Kd.C_drew ?_)))
         (case side2 => exact HC262_1.out)
         (case side3 => repeat (first | exact (Kd.C_below HR263_1.out HB.out) | (with_reducible refine Kd.C_alloc ?_ _) | (with_reducible refine Kd.C_drewN ?_ _) | (with_reducible refine Kd.C_drew ?_)))
         (case side4 => exact HC263_1.out)
         rintro e w10 ⟨rfl, hb⟩
         refine ⟨_, rfl, ?_⟩
         have n0_ := Aside0.mk (below_step (nH HB.out) hb)
         clear HB; have HB := n0_; clear n0_; (try clear hb); (try clear hb2); (try clear hk); (try clear hi)
         refine hK.out _ _ ⟨(nC HB.out hw262_0 :), (nC HB.out hw262_1 :), (nC HB.out hw263_0 :), (nC HB.out hw263_1 :)⟩ (fun hHeld => ?_)
         clear hK K
         refine norm_ (a' := ?_) ?_ ?_
         rotate_left
         · show Act.put _ (some 25) _ = _
           simp only [Act.put, List.setIfInBounds_toArray, List.set_cons_zero, List.set_cons_succ, i64_w, i32_w]
           rfl
         refine pU 9 (some 26) #[T,T,T,T,T,T,T,T,T,T] rfl rfl HT_.out ?_
         refine done_ (done_of HT_.out (by kernel_rfl)) ?_
         try go_wp2
         go_roundg k1
         case measure => have := HK1.out; omega
         case rel => exact ⟨(wrap64 (x5_1 + 1)), nS, H', ⟨by have := HK1.out; omega⟩, ⟨nH HB.out⟩⟩
       · replace c8 := Bool.eq_false_iff.mpr c8
         subst c8
         have H1 : (some false) = some r := by rw [if_neg (show ¬ (false = true) by decide)] at H; exact H
         clear H; have H := H1; clear H1; obtain rfl := Option.some.inj H
         try go_wp2
         have n0_ := Aside0.mk (below_drew1 HB.out)
         clear HB; have HB := n0_; clear n0_
         have p262 : 0 ≤ (x5_1 : Int) := of_decide_eq_true nQ
         have q262 : x5_1 < (l0.length : Int) := of_decide_eq_true nQ
         obtain ⟨ad262, A262_1, c262_1, e262, hx262_0, hx262_1, hl262_1, hi262_1⟩ := at_T46 HR0.out x5_1 p262 q262
         have hw262_1 := hx262_1; have hw262_0 := hx262_0; cases e262
         replace hx262_0 := (HB.out.cell (World.block_lt_of_cell? w _ hx262_0)).trans hx262_0
         replace hx262_1 := (HB.out.cell (World.block_lt_of_cell? w _ hx262_1)).trans hx262_1
         have HR262_1 := Aside0.mk hi262_1
         have HC262_1 := Aside0.mk hl262_1
         clear hi262_1 hl262_1; replace p262 := eq_true p262; replace q262 := eq_true q262
         have p263 : 0 ≤ (x5_1 : Int) := of_decide_eq_true nQ
         have q263 : x5_1 < (l1.length : Int) := of_decide_eq_true nQ
         obtain ⟨ad263, A263_1, c263_1, e263, hx263_0, hx263_1, hl263_1, hi263_1⟩ := at_T46 HR1.out x5_1 p263 q263
         have hw263_1 := hx263_1; have hw263_0 := hx263_0; cases e263
         replace hx263_0 := (HB.out.cell (World.block_lt_of_cell? w _ hx263_0)).trans hx263_0
         replace hx263_1 := (HB.out.cell (World.block_lt_of_cell? w _ hx263_1)).trans hx263_1
         have HR263_1 := Aside0.mk hi263_1
         have HC263_1 := Aside0.mk hl263_1
         clear hi263_1 hl263_1; replace p263 := eq_true p263; replace q263 := eq_true q263
         refine start_ (n := 10) (S := fun w' => w'.cell? (ad262.add ((x5_1).toNat * 2)) = some (.string ((rd_T46 l0 x5_1).f0)) ∧ w'.cell? ⟨(ad262.add ((x5_1).toNat * 2)).block, (ad262.add ((x5_1).toNat * 2)).off + 1, none⟩ = some (.slice A262_1 ((rd_T46 l0 x5_1).f1).length c262_1) ∧ w'.cell? (ad263.add ((x5_1).toNat * 2)) = some (.string ((rd_T46 l1 x5_1).f0)) ∧ w'.cell? ⟨(ad263.add ((x5_1).toNat * 2)).block, (ad263.add ((x5_1).toNat * 2)).off + 1, none⟩ = some (.slice A263_1 ((rd_T46 l1 x5_1).f1).length c263_1)) (ds := []) #[F,F,F,F,F,F,F,F,F,F] (by kernel_rfl) rfl rfl ⟨(nC HB.out hw262_0 :), (nC HB.out hw262_1 :), (nC HB.out hw263_0 :), (nC HB.out hw263_1 :)⟩ (fun hHeld => ?_); refine with_tabW laws_eqTripS.tab6 laws_eqTripS.bits6 (fun HT_ HW_ => ?_)
         generalize wr.drew = w11 at HB HR262_1 HR263_1 hx262_0 hx262_1 hx263_0 hx263_1 hHeld ⊢
         refine pU 0 (some 17) #[T,F,F,F,F,F,F,F,F,F] rfl rfl HT_.out ?_
         refine pU 1 (some 18) #[T,T,F,F,F,F,F,F,F,F] rfl rfl HT_.out ?_
         refine pU 2 (some 19) #[T,T,T,F,F,F,F,F,F,F] rfl rfl HT_.out ?_
         refine pU 4 (some 21) #[T,T,T,F,T,F,F,F,F,F] rfl rfl HT_.out ?_
         refine pU 5 (some 22) #[T,T,T,F,T,T,F,F,F,F] rfl rfl HT_.out ?_
         refine pU 6 (some 23) #[T,T,T,F,T,T,T,F,F,F] rfl rfl HT_.out ?_
         refine tU4 3 (some 20) #[T,T,T,T,T,T,T,F,F,F] rfl rfl HT_.out HW_.out hHeld ?_
         refine tU4 7 (some 24) #[T,T,T,T,T,T,T,T,F,F] rfl rfl HT_.out HW_.out hHeld ?_
         refine one_ (i := 8) (N := some 25) #[T,T,T,T,T,T,T,T,T,F] rfl rfl (one_of HT_.out (by kernel_rfl)) (by decide) (fun K hK => ?_)
         refine goes_ Tryd.func28 (by kernel_rfl) rfl #[.agg #[.string ((rd_T46 l0 x5_1).f0), .slice A262_1 ((rd_T46 l0 x5_1).f1).length c262_1], .agg #[.string ((rd_T46 l1 x5_1).f0), .slice A263_1 ((rd_T46 l1 x5_1).f1).length c263_1]] (by rfl) rfl rfl (by (try simp only [List.map_toArray, List.map_cons, List.map_nil]); first | done | rfl | (simp only [List.length_drop, List.length_take]; rfl)) ?_
         with_reducible refine (laws_eqTrip.calls k1 ((rd_T46 l0 x5_1).f0) _ _ ((rd_T46 l0 x5_1).f1) ((rd_T46 l1 x5_1).f0) _ _ ((rd_T46 l1 x5_1).f1) false _ ?side1 ?side2 ?side3 ?side4 A7.out).mono ?_
         (case side1 => repeat (first | exact (Kd.C_below HR262_1.out HB.out) | (with_reducible refine Kd.C_alloc ?_ _) | (with_reducible refine Kd.C_drewN ?_ _) | (with_reducible refine Kd.C_drew ?_)))
         (case side2 => exact HC262_1.out)
         (case side3 => repeat (first | exact (Kd.C_below HR263_1.out HB.out) | (with_reducible refine Kd.C_alloc ?_ _) | (with_reducible refine Kd.C_drewN ?_ _) | (with_reducible refine Kd.C_drew ?_)))
         (case side4 => exact HC263_1.out)
         rintro e w12 ⟨rfl, hb⟩
         refine ⟨_, rfl, ?_⟩
         have n0_ := Aside0.mk (below_step (nH HB.out) hb)
         clear HB; have HB := n0_; clear n0_; (try clear hb); (try clear hb2); (try clear hk); (try clear hi)
         refine hK.out _ _ ⟨(nC HB.out hw262_0 :), (nC HB.out hw262_1 :), (nC HB.out hw263_0 :), (nC HB.out hw263_1 :)⟩ (fun hHeld => ?_)
         clear hK K
         refine norm_ (a' := ?_) ?_ ?_
         rotate_left
         · show Act.put _ (some 25) _ = _
           simp only [Act.put, List.setIfInBounds_toArray, List.set_cons_zero, List.set_cons_succ, i64_w, i32_w]
           rfl
         refine pU 9 (some 26) #[T,T,T,T,T,T,T,T,T,T] rfl rfl HT_.out ?_
         refine done_ (done_of HT_.out (by kernel_rfl)) ?_
         try go_wp2
         go_ret
         exact ⟨by first | rfl | (simp [errW_none, errW_some] <;> rfl) | (simp [*, errW_none, errW_some] <;> first | rfl | (simp [wrap64]; done)), nH HB.out⟩
     · rw [if_neg c4] at H
       have c4b0 : decide (x5_1 < (l0.length : Int)) = false := decide_eq_false c4
       clear c4; obtain rfl := Option.some.inj H; go_wp2; go_ret
       exact ⟨by first | rfl | (simp [errW_none, errW_some] <;> rfl) | (simp [*, errW_none, errW_some] <;> first | rfl | (simp [wrap64]; done)), nH HB.out⟩
 · rw [if_neg c3] at H
   have c3b0 : ((l0.length : Int) == (l1.length : Int)) = false := beq_eq_false_iff_ne.mpr c3
   have c3b1 : ((l0.length : Int) != (l1.length : Int)) = true := bne_iff_ne.mpr c3
   have c3b2 : (l0.length == l1.length) = false := by first | simpa using c3 | (simp at c3 ⊢; omega)
   obtain rfl := Option.some.inj H
   go_enter Tryd.func11, Tryd.ntmps11
   go_wp2; go_ret
   exact ⟨by first | rfl | (simp [errW_none, errW_some] <;> rfl) | (simp [*, errW_none, errW_some] <;> first | rfl | (simp [wrap64]; done)), nH HB.out⟩
end Go.Proofs.YtdpjoblnjjkbfaaDoor.P

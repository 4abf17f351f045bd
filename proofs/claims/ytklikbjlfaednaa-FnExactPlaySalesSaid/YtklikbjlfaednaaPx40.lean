/- Contracts of the functions of the program, each one with its plain Lean function; written by a program of the session out of the translation. -/
import Derived.Test.YtklikbjlfaednaaNe
import Derived.Test.YtklikbjlfaednaaNb
import Derived.Test.YtklikbjlfaednaaPx0
import Derived.Test.YtklikbjlfaednaaPx39
namespace Go.Proofs.Ytklikbjlfaednaa.P
open Go.RowKit Go.Proofs.YtklikbjlfaednaaW.PrintWords Go.Proofs.YtklikbjlfaednaaW.PrintLast Go.Proofs.YtklikbjlfaednaaW.PrintMore
attribute [local go_sem] max2_int min2_int max_two min_two max_three min_three max_four min_four   -- for this text's walks alone
set_option linter.unusedVariables false
set_option linter.unusedSimpArgs false
/-! ### laws_eqSaleS: function 42 -/
theorem laws_eqSaleS.mono_l : ∀ k, (∀ y0 y1 y2, LeO (laws_eqSaleS.l0 k y0 y1 y2) (laws_eqSaleS.l0 (k + 1) y0 y1 y2))
 | 0 => fun _ _ _ r h => by simp [laws_eqSaleS.l0] at h
 | k + 1 => by
  have ih0 := laws_eqSaleS.mono_l k
  · intro y0 y1 y2
    unfold laws_eqSaleS.l0
    repeat' first
    | (with_reducible exact ih0 _ _ _)
    | (with_reducible exact LeO.refl _)
    | (with_reducible exact LeO.none _)
    | (with_reducible refine LeO.ite ?_ ?_)
    | (with_reducible refine LeO.bind ?_ (fun _ => ?_))
    | exact ih0 _ _ _
    | exact LeO.none _
    | refine LeO.ite ?_ ?_
    | refine LeO.bind ?_ (fun _ => ?_)
theorem laws_eqSaleS.mono : ∀ a0 a1 k, LeO (laws_eqSaleS.f k a0 a1) (laws_eqSaleS.f (k + 1) a0 a1) := by
 intro a0 a1 k
 have ih0 := laws_eqSaleS.mono_l k
 unfold laws_eqSaleS.f
 repeat' first
  | (with_reducible exact ih0 _ _ _)
  | (with_reducible exact LeO.refl _)
  | (with_reducible exact LeO.none _)
  | (with_reducible refine LeO.ite ?_ ?_)
  | (with_reducible refine LeO.bind ?_ (fun _ => ?_))
  | exact ih0 _ _ _
  | exact LeO.none _
  | refine LeO.ite ?_ ?_
  | refine LeO.bind ?_ (fun _ => ?_)
def laws_eqSaleS.T6 : Bool × List (List Nat × List Nat) := (true, [([], []), ([], []), ([0, 1], [0, 1]), ([2], [2]), ([], []), ([], []), ([4, 5], [4, 5]), ([6], [6]), ([3, 7], [3, 7]), ([8], [8])])
def laws_eqSaleS.B6 : List Nat := [0, 0, 3, 7, 0, 0, 48, 112, 255, 511]
theorem laws_eqSaleS.tab6 : rtab .any (opsOf Try.f42 6) = laws_eqSaleS.T6 := by kernel_rfl
theorem laws_eqSaleS.bits6 : waitsOk laws_eqSaleS.T6.2 laws_eqSaleS.B6 = true := by kernel_rfl
set_option maxHeartbeats 8000000 in
set_option maxRecDepth 100000 in
theorem laws_eqSaleS.calls (k : Nat) (A0 : Option Addr) (c0 : Nat) (l0 : List (S56)) (A1 : Option Addr) (c1 : Nat) (l1 : List (S56)) (r : Bool) (w : World) (hr0 : Kd.C k56 w A0 l0.length l0) (hc0 : l0.length ≤ c0) (hr1 : Kd.C k56 w A1 l1.length l1) (hc1 : l1.length ≤ c1) (h : laws_eqSaleS.f k l0 l1 = some r) :
 Calls Try.prog 42 #[.slice A0 l0.length c0, .slice A1 l1.length c1] w fun e w' => e = .returned (.bool r) ∧ Below w.heap.size w w' := by
 have hu56 := Try.underlying56
 have HR0 := aM hr0
 have HC0 := aM hc0
 clear hr0 hc0
 have HR1 := aM hr1
 have HC1 := aM hc1
 clear hr1 hc1
 have HB := aM (Below.refl w.heap.size w)
 have H : (if (l0.length : Int) = (l1.length : Int) then (laws_eqSaleS.l0 k l0 l1 0) else (some false)) = some r := h
 clear h
 by_cases c3 : (l0.length : Int) = (l1.length : Int)
 · rw [if_pos c3] at H
   have c3b0 : ((l0.length : Int) == (l1.length : Int)) = true := beq_iff_eq.mpr c3
   have c3b1 : ((l0.length : Int) != (l1.length : Int)) = false := bne_eq_false_iff_eq.mpr c3
   have c3b2 : (l0.length == l1.length) = true := by first | simpa using c3 | (simp at c3 ⊢; omega)
   clear c3
   have H' := aM H
   clear H
   go_enter Try.func42, Try.ntmps42
   go_wp2
   go_loopg [5] k (fun kq v5 w' => ∃ (x5_1 : Int), v5 = .int .i64 x5_1 ∧ Aside0 (laws_eqSaleS.l0 kq l0 l1 x5_1 = some r) ∧ Aside0 (kq ≤ k) ∧ Aside0 (Below w.heap.size w w'))
   case atStart => exact ⟨(0), nS, H', ⟨Nat.le_refl _⟩, ⟨nH HB.out⟩⟩
   case round =>
    clear H'
    try clear c1; try clear p2; try clear c3; try clear c3b0; try clear c3b1; try clear c3b2
    obtain ⟨x5_1, rfl, HA, HK1, HB⟩ := hrel
    cases gk with
    | zero => exact absurd HA.out (by simp [laws_eqSaleS.l0])
    | succ k1 =>
     have H := HA.out; clear HA
     simp only [laws_eqSaleS.l0] at H
     by_cases c4 : x5_1 < (l0.length : Int)
     · rw [if_pos c4] at H
       have c4b0 : decide (x5_1 < (l0.length : Int)) = true := decide_eq_true c4
       clear c4
       by_cases c5 : 0 ≤ x5_1
       rotate_left
       · (rw [if_neg c5] at H; exact absurd H (by simp))
       rw [if_pos c5] at H
       have c5b0 : decide (0 ≤ x5_1) = true := decide_eq_true c5
       clear c5
       by_cases c6 : x5_1 < (l1.length : Int)
       rotate_left
       · (rw [if_neg c6] at H; exact absurd H (by simp))
       rw [if_pos c6] at H
       have c6b0 : decide (x5_1 < (l1.length : Int)) = true := decide_eq_true c6
       clear c6
       obtain ⟨t337, A70, H⟩ := Option.bind_eq_some_iff.mp H
       have A7 := aM A70
       clear A70
       by_cases c8 : t337 = true
       · subst c8
         rw [if_pos rfl] at H
         have H' := aM H
         clear H
         try go_wp2
         have n_ := aM (below_drew1 HB.out); clear HB; have HB := n_; clear n_
         have p335 : 0 ≤ (x5_1 : Int) := of_decide_eq_true nQ
         have q335 : x5_1 < (l0.length : Int) := of_decide_eq_true nQ
         obtain ⟨ad335, e335, hx335_0, hx335_1, hx335_2, hx335_3⟩ := at_T56 HR0.out x5_1 p335 q335
         have hw335_3 := hx335_3; have hw335_2 := hx335_2; have hw335_1 := hx335_1; have hw335_0 := hx335_0; cases e335
         replace hx335_0 := (HB.out.cell (World.block_lt_of_cell? w _ hx335_0)).trans hx335_0
         replace hx335_1 := (HB.out.cell (World.block_lt_of_cell? w _ hx335_1)).trans hx335_1
         replace hx335_2 := (HB.out.cell (World.block_lt_of_cell? w _ hx335_2)).trans hx335_2
         replace hx335_3 := (HB.out.cell (World.block_lt_of_cell? w _ hx335_3)).trans hx335_3
         replace p335 := eq_true p335; replace q335 := eq_true q335
         have p336 : 0 ≤ (x5_1 : Int) := of_decide_eq_true nQ
         have q336 : x5_1 < (l1.length : Int) := of_decide_eq_true nQ
         obtain ⟨ad336, e336, hx336_0, hx336_1, hx336_2, hx336_3⟩ := at_T56 HR1.out x5_1 p336 q336
         have hw336_3 := hx336_3; have hw336_2 := hx336_2; have hw336_1 := hx336_1; have hw336_0 := hx336_0; cases e336
         replace hx336_0 := (HB.out.cell (World.block_lt_of_cell? w _ hx336_0)).trans hx336_0
         replace hx336_1 := (HB.out.cell (World.block_lt_of_cell? w _ hx336_1)).trans hx336_1
         replace hx336_2 := (HB.out.cell (World.block_lt_of_cell? w _ hx336_2)).trans hx336_2
         replace hx336_3 := (HB.out.cell (World.block_lt_of_cell? w _ hx336_3)).trans hx336_3
         replace p336 := eq_true p336; replace q336 := eq_true q336
         refine start_ (n := 10) (S := fun w' => w'.cell? (ad335.add ((x5_1).toNat * 4)) = some (.int .i64 ((rd_T56 l0 x5_1).f0)) ∧ w'.cell? ⟨(ad335.add ((x5_1).toNat * 4)).block, (ad335.add ((x5_1).toNat * 4)).off + 1, none⟩ = some (.int .i64 ((rd_T56 l0 x5_1).f1)) ∧ w'.cell? ⟨(ad335.add ((x5_1).toNat * 4)).block, (ad335.add ((x5_1).toNat * 4)).off + 2, none⟩ = some (.int .i64 ((rd_T56 l0 x5_1).f2)) ∧ w'.cell? ⟨(ad335.add ((x5_1).toNat * 4)).block, (ad335.add ((x5_1).toNat * 4)).off + 3, none⟩ = some (.int .i64 ((rd_T56 l0 x5_1).f3)) ∧ w'.cell? (ad336.add ((x5_1).toNat * 4)) = some (.int .i64 ((rd_T56 l1 x5_1).f0)) ∧ w'.cell? ⟨(ad336.add ((x5_1).toNat * 4)).block, (ad336.add ((x5_1).toNat * 4)).off + 1, none⟩ = some (.int .i64 ((rd_T56 l1 x5_1).f1)) ∧ w'.cell? ⟨(ad336.add ((x5_1).toNat * 4)).block, (ad336.add ((x5_1).toNat * 4)).off + 2, none⟩ = some (.int .i64 ((rd_T56 l1 x5_1).f2)) ∧ w'.cell? ⟨(ad336.add ((x5_1).toNat * 4)).block, (ad336.add ((x5_1).toNat * 4)).off + 3, none⟩ = some (.int .i64 ((rd_T56 l1 x5_1).f3))) (ds := []) #[F,F,F,F,F,F,F,F,F,F] (by kernel_rfl) rfl rfl ⟨(nC HB.out hw335_0 :), (nC HB.out hw335_1 :), (nC HB.out hw335_2 :), (nC HB.out hw335_3 :), (nC HB.out hw336_0 :), (nC HB.out hw336_1 :), (nC HB.out hw336_2 :), (nC HB.out hw336_3 :)⟩ (fun hHeld => ?_); refine with_tabW laws_eqSaleS.tab6 laws_eqSaleS.bits6 (fun HT_ HW_ => ?_)
         generalize wr.drew = w9 at HB hx335_0 hx335_1 hx335_2 hx335_3 hx336_0 hx336_1 hx336_2 hx336_3 hHeld ⊢
         refine pU 0 (some 17) #[T,F,F,F,F,F,F,F,F,F] rfl rfl HT_.out ?_
         refine pU 1 (some 18) #[T,T,F,F,F,F,F,F,F,F] rfl rfl HT_.out ?_
         refine pU 2 (some 19) #[T,T,T,F,F,F,F,F,F,F] rfl rfl HT_.out ?_
         refine pU 4 (some 21) #[T,T,T,F,T,F,F,F,F,F] rfl rfl HT_.out ?_
         refine pU 5 (some 22) #[T,T,T,F,T,T,F,F,F,F] rfl rfl HT_.out ?_
         refine pU 6 (some 23) #[T,T,T,F,T,T,T,F,F,F] rfl rfl HT_.out ?_
         refine tU8 3 (some 20) #[T,T,T,T,T,T,T,F,F,F] rfl rfl HT_.out HW_.out hHeld ?_
         refine tU8 7 (some 24) #[T,T,T,T,T,T,T,T,F,F] rfl rfl HT_.out HW_.out hHeld ?_
         refine one_ (i := 8) (N := some 25) #[T,T,T,T,T,T,T,T,T,F] rfl rfl (one_of HT_.out (by kernel_rfl)) (by decide) (fun K hK => ?_)
         refine goes_ Try.func69 (by kernel_rfl) rfl #[.agg #[.int .i64 ((rd_T56 l0 x5_1).f0), .int .i64 ((rd_T56 l0 x5_1).f1), .int .i64 ((rd_T56 l0 x5_1).f2), .int .i64 ((rd_T56 l0 x5_1).f3)], .agg #[.int .i64 ((rd_T56 l1 x5_1).f0), .int .i64 ((rd_T56 l1 x5_1).f1), .int .i64 ((rd_T56 l1 x5_1).f2), .int .i64 ((rd_T56 l1 x5_1).f3)]] (by rfl) rfl rfl (by (try simp only [List.map_toArray, List.map_cons, List.map_nil]); first | done | rfl | (simp only [List.length_drop, List.length_take]; rfl)) ?_
         with_reducible refine (laws_eqSale.calls ((rd_T56 l0 x5_1).f0) ((rd_T56 l0 x5_1).f1) ((rd_T56 l0 x5_1).f2) ((rd_T56 l0 x5_1).f3) ((rd_T56 l1 x5_1).f0) ((rd_T56 l1 x5_1).f1) ((rd_T56 l1 x5_1).f2) ((rd_T56 l1 x5_1).f3) true _ A7.out).mono ?_
         rintro e w10 ⟨rfl, hb⟩
         refine ⟨_, rfl, ?_⟩
         have n_ := aM (below_step (nH HB.out) hb); clear HB; have HB := n_; clear n_; (try clear hb); (try clear hb2); (try clear hk); (try clear hi)
         refine hK.out _ _ ⟨(nC HB.out hw335_0 :), (nC HB.out hw335_1 :), (nC HB.out hw335_2 :), (nC HB.out hw335_3 :), (nC HB.out hw336_0 :), (nC HB.out hw336_1 :), (nC HB.out hw336_2 :), (nC HB.out hw336_3 :)⟩ (fun hHeld => ?_)
         clear hK K
         refine norm_ (a' := ?_) ?_ ?_
         rotate_left
         · show Act.put _ (some 25) _ = _
           simp only [Act.put, List.setIfInBounds_toArray, List.set_cons_zero, List.set_cons_succ, i64_w, i32_w]
           rfl
         refine pU 9 (some 26) #[T,T,T,T,T,T,T,T,T,T] rfl rfl HT_.out ?_
         refine done_ (done_of HT_.out (by kernel_rfl)) ?_
         try go_wp2
         go_roundg k1
         case measure => have := HK1.out; omega
         case rel => exact ⟨(wrap64 (x5_1 + 1)), nS, H', ⟨by have := HK1.out; omega⟩, ⟨nH HB.out⟩⟩
       · replace c8 := Bool.eq_false_iff.mpr c8
         subst c8
         rw [if_neg nN] at H; obtain rfl := Option.some.inj H
         try go_wp2
         have n_ := aM (below_drew1 HB.out); clear HB; have HB := n_; clear n_
         have p335 : 0 ≤ (x5_1 : Int) := of_decide_eq_true nQ
         have q335 : x5_1 < (l0.length : Int) := of_decide_eq_true nQ
         obtain ⟨ad335, e335, hx335_0, hx335_1, hx335_2, hx335_3⟩ := at_T56 HR0.out x5_1 p335 q335
         have hw335_3 := hx335_3; have hw335_2 := hx335_2; have hw335_1 := hx335_1; have hw335_0 := hx335_0; cases e335
         replace hx335_0 := (HB.out.cell (World.block_lt_of_cell? w _ hx335_0)).trans hx335_0
         replace hx335_1 := (HB.out.cell (World.block_lt_of_cell? w _ hx335_1)).trans hx335_1
         replace hx335_2 := (HB.out.cell (World.block_lt_of_cell? w _ hx335_2)).trans hx335_2
         replace hx335_3 := (HB.out.cell (World.block_lt_of_cell? w _ hx335_3)).trans hx335_3
         replace p335 := eq_true p335; replace q335 := eq_true q335
         have p336 : 0 ≤ (x5_1 : Int) := of_decide_eq_true nQ
         have q336 : x5_1 < (l1.length : Int) := of_decide_eq_true nQ
         obtain ⟨ad336, e336, hx336_0, hx336_1, hx336_2, hx336_3⟩ := at_T56 HR1.out x5_1 p336 q336
         have hw336_3 := hx336_3; have hw336_2 := hx336_2; have hw336_1 := hx336_1; have hw336_0 := hx336_0; cases e336
         replace hx336_0 := (HB.out.cell (World.block_lt_of_cell? w _ hx336_0)).trans hx336_0
         replace hx336_1 := (HB.out.cell (World.block_lt_of_cell? w _ hx336_1)).trans hx336_1
         replace hx336_2 := (HB.out.cell (World.block_lt_of_cell? w _ hx336_2)).trans hx336_2
         replace hx336_3 := (HB.out.cell (World.block_lt_of_cell? w _ hx336_3)).trans hx336_3
         replace p336 := eq_true p336; replace q336 := eq_true q336
         refine start_ (n := 10) (S := fun w' => w'.cell? (ad335.add ((x5_1).toNat * 4)) = some (.int .i64 ((rd_T56 l0 x5_1).f0)) ∧ w'.cell? ⟨(ad335.add ((x5_1).toNat * 4)).block, (ad335.add ((x5_1).toNat * 4)).off + 1, none⟩ = some (.int .i64 ((rd_T56 l0 x5_1).f1)) ∧ w'.cell? ⟨(ad335.add ((x5_1).toNat * 4)).block, (ad335.add ((x5_1).toNat * 4)).off + 2, none⟩ = some (.int .i64 ((rd_T56 l0 x5_1).f2)) ∧ w'.cell? ⟨(ad335.add ((x5_1).toNat * 4)).block, (ad335.add ((x5_1).toNat * 4)).off + 3, none⟩ = some (.int .i64 ((rd_T56 l0 x5_1).f3)) ∧ w'.cell? (ad336.add ((x5_1).toNat * 4)) = some (.int .i64 ((rd_T56 l1 x5_1).f0)) ∧ w'.cell? ⟨(ad336.add ((x5_1).toNat * 4)).block, (ad336.add ((x5_1).toNat * 4)).off + 1, none⟩ = some (.int .i64 ((rd_T56 l1 x5_1).f1)) ∧ w'.cell? ⟨(ad336.add ((x5_1).toNat * 4)).block, (ad336.add ((x5_1).toNat * 4)).off + 2, none⟩ = some (.int .i64 ((rd_T56 l1 x5_1).f2)) ∧ w'.cell? ⟨(ad336.add ((x5_1).toNat * 4)).block, (ad336.add ((x5_1).toNat * 4)).off + 3, none⟩ = some (.int .i64 ((rd_T56 l1 x5_1).f3))) (ds := []) #[F,F,F,F,F,F,F,F,F,F] (by kernel_rfl) rfl rfl ⟨(nC HB.out hw335_0 :), (nC HB.out hw335_1 :), (nC HB.out hw335_2 :), (nC HB.out hw335_3 :), (nC HB.out hw336_0 :), (nC HB.out hw336_1 :), (nC HB.out hw336_2 :), (nC HB.out hw336_3 :)⟩ (fun hHeld => ?_); refine with_tabW laws_eqSaleS.tab6 laws_eqSaleS.bits6 (fun HT_ HW_ => ?_)
         generalize wr.drew = w11 at HB hx335_0 hx335_1 hx335_2 hx335_3 hx336_0 hx336_1 hx336_2 hx336_3 hHeld ⊢
         refine pU 0 (some 17) #[T,F,F,F,F,F,F,F,F,F] rfl rfl HT_.out ?_
         refine pU 1 (some 18) #[T,T,F,F,F,F,F,F,F,F] rfl rfl HT_.out ?_
         refine pU 2 (some 19) #[T,T,T,F,F,F,F,F,F,F] rfl rfl HT_.out ?_
         refine pU 4 (some 21) #[T,T,T,F,T,F,F,F,F,F] rfl rfl HT_.out ?_
         refine pU 5 (some 22) #[T,T,T,F,T,T,F,F,F,F] rfl rfl HT_.out ?_
         refine pU 6 (some 23) #[T,T,T,F,T,T,T,F,F,F] rfl rfl HT_.out ?_
         refine tU8 3 (some 20) #[T,T,T,T,T,T,T,F,F,F] rfl rfl HT_.out HW_.out hHeld ?_
         refine tU8 7 (some 24) #[T,T,T,T,T,T,T,T,F,F] rfl rfl HT_.out HW_.out hHeld ?_
         refine one_ (i := 8) (N := some 25) #[T,T,T,T,T,T,T,T,T,F] rfl rfl (one_of HT_.out (by kernel_rfl)) (by decide) (fun K hK => ?_)
         refine goes_ Try.func69 (by kernel_rfl) rfl #[.agg #[.int .i64 ((rd_T56 l0 x5_1).f0), .int .i64 ((rd_T56 l0 x5_1).f1), .int .i64 ((rd_T56 l0 x5_1).f2), .int .i64 ((rd_T56 l0 x5_1).f3)], .agg #[.int .i64 ((rd_T56 l1 x5_1).f0), .int .i64 ((rd_T56 l1 x5_1).f1), .int .i64 ((rd_T56 l1 x5_1).f2), .int .i64 ((rd_T56 l1 x5_1).f3)]] (by rfl) rfl rfl (by (try simp only [List.map_toArray, List.map_cons, List.map_nil]); first | done | rfl | (simp only [List.length_drop, List.length_take]; rfl)) ?_
         with_reducible refine (laws_eqSale.calls ((rd_T56 l0 x5_1).f0) ((rd_T56 l0 x5_1).f1) ((rd_T56 l0 x5_1).f2) ((rd_T56 l0 x5_1).f3) ((rd_T56 l1 x5_1).f0) ((rd_T56 l1 x5_1).f1) ((rd_T56 l1 x5_1).f2) ((rd_T56 l1 x5_1).f3) false _ A7.out).mono ?_
         rintro e w12 ⟨rfl, hb⟩
         refine ⟨_, rfl, ?_⟩
         have n_ := aM (below_step (nH HB.out) hb); clear HB; have HB := n_; clear n_; (try clear hb); (try clear hb2); (try clear hk); (try clear hi)
         refine hK.out _ _ ⟨(nC HB.out hw335_0 :), (nC HB.out hw335_1 :), (nC HB.out hw335_2 :), (nC HB.out hw335_3 :), (nC HB.out hw336_0 :), (nC HB.out hw336_1 :), (nC HB.out hw336_2 :), (nC HB.out hw336_3 :)⟩ (fun hHeld => ?_)
         clear hK K
         refine norm_ (a' := ?_) ?_ ?_
         rotate_left
         · show Act.put _ (some 25) _ = _
           simp only [Act.put, List.setIfInBounds_toArray, List.set_cons_zero, List.set_cons_succ, i64_w, i32_w]
           rfl
         refine pU 9 (some 26) #[T,T,T,T,T,T,T,T,T,T] rfl rfl HT_.out ?_
         refine done_ (done_of HT_.out (by kernel_rfl)) ?_
         try go_wp2
         go_ret
         exact ⟨by first | rfl | (simp [errW_none, errW_some] <;> rfl) | (simp [*, errW_none, errW_some] <;> first | rfl | (simp [wrap64]; done)), nH HB.out⟩
     · rw [if_neg c4] at H
       have c4b0 : decide (x5_1 < (l0.length : Int)) = false := decide_eq_false c4
       clear c4; obtain rfl := Option.some.inj H; go_wp2; go_ret
       exact ⟨by first | rfl | (simp [errW_none, errW_some] <;> rfl) | (simp [*, errW_none, errW_some] <;> first | rfl | (simp [wrap64]; done)), nH HB.out⟩
 · rw [if_neg c3] at H
   have c3b0 : ((l0.length : Int) == (l1.length : Int)) = false := beq_eq_false_iff_ne.mpr c3
   have c3b1 : ((l0.length : Int) != (l1.length : Int)) = true := bne_iff_ne.mpr c3
   have c3b2 : (l0.length == l1.length) = false := by first | simpa using c3 | (simp at c3 ⊢; omega)
   obtain rfl := Option.some.inj H
   go_enter Try.func42, Try.ntmps42
   go_wp2; go_ret
   exact ⟨by first | rfl | (simp [errW_none, errW_some] <;> rfl) | (simp [*, errW_none, errW_some] <;> first | rfl | (simp [wrap64]; done)), nH HB.out⟩
end Go.Proofs.Ytklikbjlfaednaa.P

/- Contracts of functions, each with its plain Lean function. -/
import Derived.Test.YtdpjoblnjjkbfaaDoorNe
import Derived.Test.YtdpjoblnjjkbfaaDoorNb
import Derived.Test.YtdpjoblnjjkbfaaDoorPx0
import Derived.Test.YtdpjoblnjjkbfaaDoorPx3
import Derived.Test.YtdpjoblnjjkbfaaDoorPx4
namespace Go.Proofs.YtdpjoblnjjkbfaaDoor.P
open Go.RowKit Go.Proofs.YtdpjoblnjjkbfaaDoorW.PrintWords Go.Proofs.YtdpjoblnjjkbfaaDoorW.PrintLast Go.Proofs.YtdpjoblnjjkbfaaDoorW.PrintMore
attribute [local go_sem] max2_int min2_int max_two min_two max_three min_three max_four min_four   -- for this text's walks alone
set_option linter.unusedVariables false
set_option linter.unusedSimpArgs false
/-! ### impl_TableOk: function 42 -/
theorem impl_TableOk.mono_l : ∀ k, (∀ y0 y1 y2 y3, LeO (impl_TableOk.l0 k y0 y1 y2 y3) (impl_TableOk.l0 (k + 1) y0 y1 y2 y3))
 | 0 => fun _ _ _ _ r h => by simp [impl_TableOk.l0] at h
 | k + 1 => by
  have ih0 := impl_TableOk.mono_l k
  · intro y0 y1 y2 y3
    unfold impl_TableOk.l0
    repeat' first
    | (with_reducible exact ih0 _ _ _ _)
    | (with_reducible exact impl_TripOk.mono _ _ _)
    | (with_reducible exact LeO.refl _)
    | (with_reducible exact LeO.none _)
    | (with_reducible refine LeO.ite ?_ ?_)
    | (with_reducible refine LeO.bind ?_ (fun _ => ?_))
    | exact ih0 _ _ _ _
    | exact impl_TripOk.mono _ _ _
    | exact LeO.none _
    | refine LeO.ite ?_ ?_
    | refine LeO.bind ?_ (fun _ => ?_)
theorem impl_TableOk.mono : ∀ a0 k, LeO (impl_TableOk.f k a0) (impl_TableOk.f (k + 1) a0) := by
 intro a0 k
 have ih0 := impl_TableOk.mono_l k
 unfold impl_TableOk.f
 repeat' first
  | (with_reducible exact ih0 _ _ _ _)
  | (with_reducible exact impl_TripOk.mono _ _ _)
  | (with_reducible exact LeO.refl _)
  | (with_reducible exact LeO.none _)
  | (with_reducible refine LeO.ite ?_ ?_)
  | (with_reducible refine LeO.bind ?_ (fun _ => ?_))
  | exact ih0 _ _ _ _
  | exact impl_TripOk.mono _ _ _
  | exact LeO.none _
  | refine LeO.ite ?_ ?_
  | refine LeO.bind ?_ (fun _ => ?_)
def impl_TableOk.T6 : Bool × List (List Nat × List Nat) := (true, [([], []), ([0], [0]), ([1], [1]), ([2, 1], [2]), ([3], [3]), ([3], [3]), ([4, 5, 3], [3, 4, 5]), ([3], [3]), ([7, 3], [3, 7]), ([6, 8, 3, 3], [3, 6, 8]), ([9, 3], [3, 9]), ([3, 10], [3, 10])])
def impl_TableOk.B6 : List Nat := [0, 1, 3, 7, 15, 15, 63, 15, 143, 511, 1023, 2047]
theorem impl_TableOk.tab6 : rtab .any (opsOf Tryd.f42 6) = impl_TableOk.T6 := by kernel_rfl
theorem impl_TableOk.bits6 : waitsOk impl_TableOk.T6.2 impl_TableOk.B6 = true := by kernel_rfl
set_option maxHeartbeats 8000000 in
set_option maxRecDepth 100000 in
theorem impl_TableOk.calls (k : Nat) (A0 : Option Addr) (c0 : Nat) (l0 : List (S46)) (r : Bool) (w : World) (hr0 : Kd.C k46 w A0 l0.length l0) (hc0 : l0.length ≤ c0) (h : impl_TableOk.f k l0 = some r) :
 Calls Tryd.prog 42 #[.slice A0 l0.length c0] w fun e w' => e = .returned (.bool r) ∧ Below w.heap.size w w' := by
 have hu46 := Tryd.underlying46
 have HR0 := aM hr0
 have HC0 := aM hc0
 clear hr0 hc0
 have HB := aM (Below.refl w.heap.size w)
 have H : (if (l0.length : Int) > 24 then (some false) else (impl_TableOk.l0 k l0 l0 (l0.length : Int) 0)) = some r := h
 clear h
 by_cases c2 : (l0.length : Int) > 24
 · rw [if_pos c2] at H
   have c2b0 : decide (24 < (l0.length : Int)) = true := decide_eq_true c2
   have c2b1 : decide (24 < l0.length) = true := decide_eq_true (by omega)
   clear c2; obtain rfl := Option.some.inj H
   go_enter Tryd.func42, Tryd.ntmps42
   go_wp2; go_ret
   exact ⟨by first | rfl | (simp [errW_none, errW_some] <;> rfl) | (simp [*, errW_none, errW_some] <;> first | rfl | (simp [wrap64]; done)), nH HB.out⟩
 · rw [if_neg c2] at H
   have c2b0 : decide (24 < (l0.length : Int)) = false := decide_eq_false c2
   have c2b1 : decide (24 < l0.length) = false := decide_eq_false (by omega)
   clear c2
   have H' := aM H
   clear H
   go_enter Tryd.func42, Tryd.ntmps42
   go_wp2
   go_loopg [10] k (fun kq v10 w' => ∃ (x10_1 : Int), v10 = .int .i64 x10_1 ∧ Aside0 (impl_TableOk.l0 kq l0 l0 (l0.length : Int) x10_1 = some r) ∧ Aside0 (kq ≤ k) ∧ Aside0 (Below w.heap.size w w'))
   case atStart => exact ⟨(0), nS, H', ⟨Nat.le_refl _⟩, ⟨nH HB.out⟩⟩
   case round =>
    clear H'
    try clear c2; try clear c2b0; try clear c2b1; try clear p2
    obtain ⟨x10_1, rfl, HA, HK1, HB⟩ := hrel
    cases gk with
    | zero => exact absurd HA.out (by simp [impl_TableOk.l0])
    | succ k1 =>
     have H := HA.out; clear HA
     simp only [impl_TableOk.l0] at H
     by_cases c3 : x10_1 < (l0.length : Int)
     · rw [if_pos c3] at H
       have c3b0 : decide (x10_1 < (l0.length : Int)) = true := decide_eq_true c3
       clear c3
       by_cases c4 : 0 ≤ x10_1
       rotate_left
       · (rw [if_neg c4] at H; exact absurd H (by simp))
       rw [if_pos c4] at H
       have c4b0 : decide (0 ≤ x10_1) = true := decide_eq_true c4
       clear c4
       by_cases c5 : x10_1 < (l0.length : Int)
       rotate_left
       · (rw [if_neg c5] at H; exact absurd H (by simp))
       rw [if_pos c5] at H
       have c5b0 : decide (x10_1 < (l0.length : Int)) = true := decide_eq_true c5
       clear c5
       obtain ⟨t123, A60, H⟩ := Option.bind_eq_some_iff.mp H
       have A6 := aM A60
       clear A60
       by_cases c7 : t123 = true
       · subst c7
         rw [if_pos rfl] at H
         have c8b0 := eq_true (of_decide_eq_true nQ : 0 ≤ x10_1)
         by_cases c9 : x10_1 ≤ (l0.length : Int)
         rotate_left
         · (rw [if_neg c9] at H; exact absurd H (by simp))
         rw [if_pos c9] at H
         have c9b0 := eq_true c9
         have c9b1 : decide (x10_1 ≤ (l0.length : Int)) = true := decide_eq_true c9
         clear c9
         obtain ⟨y124, hy124⟩ : ∃ y_ : List (S46), y_ = (l0.take (x10_1 : Int).toNat) := ⟨_, rfl⟩
         replace H : ((impl_tripNamed.f y124 ((rd_T46 l0 x10_1).f0)).bind fun t128 => (if t128 ≥ 0 then (some false) else (impl_TableOk.l0 k1 l0 l0 (l0.length : Int) (wrap64 (x10_1 + 1))))) = some r := by first | (rw [hy124]; with_reducible exact H) | (have H2_ := (Option.bind_some _ _).symm.trans H; rw [hy124]; with_reducible exact H2_) | (have H2_ := (Option.bind_some _ _).symm.trans H; with_reducible exact H2_) | with_reducible exact H | (rw [hy124]; exact H) | exact H
         have Ny124 := aM hy124
         clear hy124
         obtain ⟨t128, A100, H⟩ := Option.bind_eq_some_iff.mp H
         have A10 := aM A100
         clear A100
         by_cases c11 : t128 ≥ 0
         · rw [if_pos c11] at H
           have c11b0 : decide (0 ≤ t128) = true := decide_eq_true c11
           clear c11; obtain rfl := Option.some.inj H
           have p121 : 0 ≤ (x10_1 : Int) := of_decide_eq_true nQ
           have q121 : x10_1 < (l0.length : Int) := of_decide_eq_true nQ
           obtain ⟨ad121, A121_1, c121_1, e121, hx121_0, hx121_1, hl121_1, hi121_1⟩ := at_T46 HR0.out x10_1 p121 q121
           cases e121
           replace hx121_0 := (HB.out.cell (World.block_lt_of_cell? w _ hx121_0)).trans hx121_0
           replace hx121_1 := (HB.out.cell (World.block_lt_of_cell? w _ hx121_1)).trans hx121_1
           have HR121_1 := aM hi121_1
           have HC121_1 := aM hl121_1
           clear hi121_1 hl121_1; replace p121 := eq_true p121; replace q121 := eq_true q121
           try go_wp2_with (first | (refine nBx 4 rfl #[.string (⟨#[]⟩ : ByteArray), .slice none 0 0] 46 ?_; intro gb122 hg w12 hbox hb; have n_ := aA (below_step (nH HB.out) hb) <| aA (hbox) <| aA (bS hg (nH HB.out)) <| aM (bS hg (nH HB.out)); clear HB; obtain ⟨HB, BK122, GW122, GE122⟩ := n_; clear hb hbox hg; obtain ⟨hcz13_0, hcz13_1, hfz13_0, hfz13_1⟩ := nK2 BK122.out))
           have n0_ : Aside0 (((w12.setCell ⟨gb122, 0, none⟩ (.string ((rd_T46 l0 x10_1).f0))).setCell ⟨gb122, 1, none⟩ (.slice A121_1 ((rd_T46 l0 x10_1).f1).length c121_1)).heap[gb122]? = some (.cells #[.string ((rd_T46 l0 x10_1).f0), .slice A121_1 ((rd_T46 l0 x10_1).f1).length c121_1] 46 (0, 0))) := ⟨by refine nE ?_; refine blk_put (cs := #[.string ((rd_T46 l0 x10_1).f0), .slice none 0 0]) ?_ 1 _ rfl; refine nE ?_; refine blk_put (cs := #[.string (⟨#[]⟩ : ByteArray), .slice none 0 0]) ?_ 0 _ rfl; refine nE ?_; exact BK122.out⟩
           have n1_ : Aside0 (Below w.heap.size w ((w12.setCell ⟨gb122, 0, none⟩ (.string ((rd_T46 l0 x10_1).f0))).setCell ⟨gb122, 1, none⟩ (.slice A121_1 ((rd_T46 l0 x10_1).f1).length c121_1))) := ⟨nH1 HB.out GE122.out⟩
           (try clear BK122); (try clear HB)
           generalize ((w12.setCell ⟨gb122, 0, none⟩ (.string ((rd_T46 l0 x10_1).f0))).setCell ⟨gb122, 1, none⟩ (.slice A121_1 ((rd_T46 l0 x10_1).f1).length c121_1)) = w14 at n0_ n1_ ⊢
           have BK122 := n0_; have HB := n1_; clear n0_ n1_
           have n_ := aA (blk_drew BK122.out) <| aM (below_drew1 HB.out); clear BK122 HB; obtain ⟨BK122, HB⟩ := n_
           refine start_ (n := 12) (S := fun w' => w'.cell? ⟨gb122, 0, none⟩ = some (.string ((rd_T46 l0 x10_1).f0)) ∧ w'.cell? ⟨gb122, 1, none⟩ = some (.slice A121_1 ((rd_T46 l0 x10_1).f1).length c121_1)) (ds := []) #[F,F,F,F,F,F,F,F,F,F,F,F] (by kernel_rfl) rfl rfl ⟨(blk_cell BK122.out 0).trans rfl, (blk_cell BK122.out 1).trans rfl⟩ (fun hHeld => ?_); refine with_tabW impl_TableOk.tab6 impl_TableOk.bits6 (fun HT_ HW_ => ?_)
           generalize w14.drew = w15 at BK122 HB hHeld ⊢
           refine tU2 0 (some 15) #[T,F,F,F,F,F,F,F,F,F,F,F] rfl rfl HT_.out HW_.out hHeld ?_
           refine one_ (i := 1) (N := some 16) #[T,T,F,F,F,F,F,F,F,F,F,F] rfl rfl (one_of HT_.out (by kernel_rfl)) (by decide) (fun K hK => ?_)
           refine goes_ Tryd.func59 (by kernel_rfl) rfl #[.agg #[.string ((rd_T46 l0 x10_1).f0), .slice A121_1 ((rd_T46 l0 x10_1).f1).length c121_1]] (by rfl) rfl rfl (by (try simp only [List.map_toArray, List.map_cons, List.map_nil]); first | done | rfl | (simp only [List.length_drop, List.length_take]; rfl)) ?_
           with_reducible refine (impl_TripOk.calls k1 ((rd_T46 l0 x10_1).f0) _ _ ((rd_T46 l0 x10_1).f1) true _ ?side1 ?side2 A6.out).mono ?_
           (case side1 => repeat (first | exact (Kd.C_below HR121_1.out HB.out) | (with_reducible refine Kd.C_alloc ?_ _) | (with_reducible refine Kd.C_drewN ?_ _) | (with_reducible refine Kd.C_drew ?_)))
           (case side2 => exact HC121_1.out)
           rintro e w16 ⟨rfl, hb⟩
           refine ⟨_, rfl, ?_⟩
           have n_ := aA (nBB BK122.out hb) <| aM (below_step (nH1 HB.out GE122.out) hb); clear BK122 HB; obtain ⟨BK122, HB⟩ := n_; (try clear hb); (try clear hb2); (try clear hk); (try clear hi)
           have q17 : (x10_1 : Int) ≤ ((l0.length : Int) : Int) := of_decide_eq_true nQ
           obtain ⟨i017, hi017, _, hsz17, _⟩ := info_parts info46
           have hroom17 : l0.length ≤ c0 := HC0.out
           have hC17 : Kd.C k46 _ (some ad121) l0.length l0 := HR0.out
           have hcut17 := cut_to (P := Tryd.prog) 27 46 .i64 Tryd.underlying27 hi017 (some ad121) l0.length c0 x10_1 (of_decide_eq_true nQ) q17 hroom17
           have hr17 := Kd.C_take (m := (x10_1 : Int).toNat) hC17 (by omega)
           have hy17 : y124.length = (x10_1 : Int).toNat := (by rw [Ny124.out, List.length_take]; omega)
           rw [← Ny124.out] at hr17
           rw [← hy17] at hcut17
           have HR127 := aM hr17
           have HC127 := aM (show y124.length ≤ c0 from by omega)
           clear hr17 hC17 hroom17 hi017 hsz17
           have KY17 := aM hy17
           clear hy17; replace q17 := eq_true q17
           refine hK.out _ _ ⟨(blk_cell BK122.out 0).trans rfl, (blk_cell BK122.out 1).trans rfl⟩ (fun hHeld => ?_)
           clear hK K
           refine norm_ (a' := ?_) ?_ ?_
           rotate_left
           · show Act.put _ (some 16) _ = _
             simp only [Act.put, List.setIfInBounds_toArray, List.set_cons_zero, List.set_cons_succ, i64_w, i32_w]
             rfl
           refine pU 2 (some 17) #[T,T,T,F,F,F,F,F,F,F,F,F] rfl rfl HT_.out ?_
           refine pU 3 (some 18) #[T,T,T,T,F,F,F,F,F,F,F,F] rfl rfl HT_.out ?_
           refine pU 4 (some 19) #[T,T,T,T,T,F,F,F,F,F,F,F] rfl rfl HT_.out ?_
           refine pU 5 (some 20) #[T,T,T,T,T,T,F,F,F,F,F,F] rfl rfl HT_.out ?_
           refine pU 6 (some 21) #[T,T,T,T,T,T,T,F,F,F,F,F] rfl rfl HT_.out ?_
           refine pU 7 (some 22) #[T,T,T,T,T,T,T,T,F,F,F,F] rfl rfl HT_.out ?_
           refine tU2 8 (some 23) #[T,T,T,T,T,T,T,T,T,F,F,F] rfl rfl HT_.out HW_.out hHeld ?_
           refine one_ (i := 9) (N := some 24) #[T,T,T,T,T,T,T,T,T,T,F,F] rfl rfl (one_of HT_.out (by kernel_rfl)) (by decide) (fun K hK => ?_)
           refine goes_ Tryd.func60 (by kernel_rfl) rfl #[.slice (some ad121) y124.length c0, .string ((rd_T46 l0 x10_1).f0)] (by rfl) rfl rfl (by (try simp only [List.map_toArray, List.map_cons, List.map_nil]); first | done | rfl | (simp only [List.length_drop, List.length_take]; rfl)) ?_
           with_reducible refine (impl_tripNamed.calls _ _ y124 ((rd_T46 l0 x10_1).f0) t128 _ ?side1 ?side2 A10.out).mono ?_
           (case side1 => repeat (first | exact (Kd.C_below HR127.out HB.out) | (with_reducible refine Kd.C_alloc ?_ _) | (with_reducible refine Kd.C_drewN ?_ _) | (with_reducible refine Kd.C_drew ?_)))
           (case side2 => exact HC127.out)
           rintro e w18 ⟨rfl, hb⟩
           refine ⟨_, rfl, ?_⟩
           have n_ := aA (nBB BK122.out hb) <| aM (below_step (nH1 HB.out GE122.out) hb); clear BK122 HB; obtain ⟨BK122, HB⟩ := n_; (try clear hb); (try clear hb2); (try clear hk); (try clear hi)
           refine hK.out _ _ ⟨(blk_cell BK122.out 0).trans rfl, (blk_cell BK122.out 1).trans rfl⟩ (fun hHeld => ?_)
           clear hK K
           refine norm_ (a' := ?_) ?_ ?_
           rotate_left
           · show Act.put _ (some 24) _ = _
             simp only [Act.put, List.setIfInBounds_toArray, List.set_cons_zero, List.set_cons_succ, i64_w, i32_w]
             rfl
           refine pU 10 (some 25) #[T,T,T,T,T,T,T,T,T,T,T,F] rfl rfl HT_.out ?_
           refine pU 11 (some 26) #[T,T,T,T,T,T,T,T,T,T,T,T] rfl rfl HT_.out ?_
           refine done_ (done_of HT_.out (by kernel_rfl)) ?_
           try go_wp2
           go_ret
           exact ⟨by first | rfl | (simp [errW_none, errW_some] <;> rfl) | (simp [*, errW_none, errW_some] <;> first | rfl | (simp [wrap64]; done)), nH1 HB.out GE122.out⟩
         · rw [if_neg c11] at H
           have c11b0 : decide (0 ≤ t128) = false := decide_eq_false c11
           clear c11
           have H' := aM H
           clear H
           have p121 : 0 ≤ (x10_1 : Int) := of_decide_eq_true nQ
           have q121 : x10_1 < (l0.length : Int) := of_decide_eq_true nQ
           obtain ⟨ad121, A121_1, c121_1, e121, hx121_0, hx121_1, hl121_1, hi121_1⟩ := at_T46 HR0.out x10_1 p121 q121
           cases e121
           replace hx121_0 := (HB.out.cell (World.block_lt_of_cell? w _ hx121_0)).trans hx121_0
           replace hx121_1 := (HB.out.cell (World.block_lt_of_cell? w _ hx121_1)).trans hx121_1
           have HR121_1 := aM hi121_1
           have HC121_1 := aM hl121_1
           clear hi121_1 hl121_1; replace p121 := eq_true p121; replace q121 := eq_true q121
           try go_wp2_with (first | (refine nBx 4 rfl #[.string (⟨#[]⟩ : ByteArray), .slice none 0 0] 46 ?_; intro gb122 hg w19 hbox hb; have n_ := aA (below_step (nH HB.out) hb) <| aA (hbox) <| aA (bS hg (nH HB.out)) <| aM (bS hg (nH HB.out)); clear HB; obtain ⟨HB, BK122, GW122, GE122⟩ := n_; clear hb hbox hg; obtain ⟨hcz20_0, hcz20_1, hfz20_0, hfz20_1⟩ := nK2 BK122.out))
           have n0_ : Aside0 (((w19.setCell ⟨gb122, 0, none⟩ (.string ((rd_T46 l0 x10_1).f0))).setCell ⟨gb122, 1, none⟩ (.slice A121_1 ((rd_T46 l0 x10_1).f1).length c121_1)).heap[gb122]? = some (.cells #[.string ((rd_T46 l0 x10_1).f0), .slice A121_1 ((rd_T46 l0 x10_1).f1).length c121_1] 46 (0, 0))) := ⟨by refine nE ?_; refine blk_put (cs := #[.string ((rd_T46 l0 x10_1).f0), .slice none 0 0]) ?_ 1 _ rfl; refine nE ?_; refine blk_put (cs := #[.string (⟨#[]⟩ : ByteArray), .slice none 0 0]) ?_ 0 _ rfl; refine nE ?_; exact BK122.out⟩
           have n1_ : Aside0 (Below w.heap.size w ((w19.setCell ⟨gb122, 0, none⟩ (.string ((rd_T46 l0 x10_1).f0))).setCell ⟨gb122, 1, none⟩ (.slice A121_1 ((rd_T46 l0 x10_1).f1).length c121_1))) := ⟨nH1 HB.out GE122.out⟩
           (try clear BK122); (try clear HB)
           generalize ((w19.setCell ⟨gb122, 0, none⟩ (.string ((rd_T46 l0 x10_1).f0))).setCell ⟨gb122, 1, none⟩ (.slice A121_1 ((rd_T46 l0 x10_1).f1).length c121_1)) = w21 at n0_ n1_ ⊢
           have BK122 := n0_; have HB := n1_; clear n0_ n1_
           have n_ := aA (blk_drew BK122.out) <| aM (below_drew1 HB.out); clear BK122 HB; obtain ⟨BK122, HB⟩ := n_
           refine start_ (n := 12) (S := fun w' => w'.cell? ⟨gb122, 0, none⟩ = some (.string ((rd_T46 l0 x10_1).f0)) ∧ w'.cell? ⟨gb122, 1, none⟩ = some (.slice A121_1 ((rd_T46 l0 x10_1).f1).length c121_1)) (ds := []) #[F,F,F,F,F,F,F,F,F,F,F,F] (by kernel_rfl) rfl rfl ⟨(blk_cell BK122.out 0).trans rfl, (blk_cell BK122.out 1).trans rfl⟩ (fun hHeld => ?_); refine with_tabW impl_TableOk.tab6 impl_TableOk.bits6 (fun HT_ HW_ => ?_)
           generalize w21.drew = w22 at BK122 HB hHeld ⊢
           refine tU2 0 (some 15) #[T,F,F,F,F,F,F,F,F,F,F,F] rfl rfl HT_.out HW_.out hHeld ?_
           refine one_ (i := 1) (N := some 16) #[T,T,F,F,F,F,F,F,F,F,F,F] rfl rfl (one_of HT_.out (by kernel_rfl)) (by decide) (fun K hK => ?_)
           refine goes_ Tryd.func59 (by kernel_rfl) rfl #[.agg #[.string ((rd_T46 l0 x10_1).f0), .slice A121_1 ((rd_T46 l0 x10_1).f1).length c121_1]] (by rfl) rfl rfl (by (try simp only [List.map_toArray, List.map_cons, List.map_nil]); first | done | rfl | (simp only [List.length_drop, List.length_take]; rfl)) ?_
           with_reducible refine (impl_TripOk.calls k1 ((rd_T46 l0 x10_1).f0) _ _ ((rd_T46 l0 x10_1).f1) true _ ?side1 ?side2 A6.out).mono ?_
           (case side1 => repeat (first | exact (Kd.C_below HR121_1.out HB.out) | (with_reducible refine Kd.C_alloc ?_ _) | (with_reducible refine Kd.C_drewN ?_ _) | (with_reducible refine Kd.C_drew ?_)))
           (case side2 => exact HC121_1.out)
           rintro e w23 ⟨rfl, hb⟩
           refine ⟨_, rfl, ?_⟩
           have n_ := aA (nBB BK122.out hb) <| aM (below_step (nH1 HB.out GE122.out) hb); clear BK122 HB; obtain ⟨BK122, HB⟩ := n_; (try clear hb); (try clear hb2); (try clear hk); (try clear hi)
           have q24 : (x10_1 : Int) ≤ ((l0.length : Int) : Int) := of_decide_eq_true nQ
           obtain ⟨i024, hi024, _, hsz24, _⟩ := info_parts info46
           have hroom24 : l0.length ≤ c0 := HC0.out
           have hC24 : Kd.C k46 _ (some ad121) l0.length l0 := HR0.out
           have hcut24 := cut_to (P := Tryd.prog) 27 46 .i64 Tryd.underlying27 hi024 (some ad121) l0.length c0 x10_1 (of_decide_eq_true nQ) q24 hroom24
           have hr24 := Kd.C_take (m := (x10_1 : Int).toNat) hC24 (by omega)
           have hy24 : y124.length = (x10_1 : Int).toNat := (by rw [Ny124.out, List.length_take]; omega)
           rw [← Ny124.out] at hr24
           rw [← hy24] at hcut24
           have HR127 := aM hr24
           have HC127 := aM (show y124.length ≤ c0 from by omega)
           clear hr24 hC24 hroom24 hi024 hsz24
           have KY24 := aM hy24
           clear hy24; replace q24 := eq_true q24
           refine hK.out _ _ ⟨(blk_cell BK122.out 0).trans rfl, (blk_cell BK122.out 1).trans rfl⟩ (fun hHeld => ?_)
           clear hK K
           refine norm_ (a' := ?_) ?_ ?_
           rotate_left
           · show Act.put _ (some 16) _ = _
             simp only [Act.put, List.setIfInBounds_toArray, List.set_cons_zero, List.set_cons_succ, i64_w, i32_w]
             rfl
           refine pU 2 (some 17) #[T,T,T,F,F,F,F,F,F,F,F,F] rfl rfl HT_.out ?_
           refine pU 3 (some 18) #[T,T,T,T,F,F,F,F,F,F,F,F] rfl rfl HT_.out ?_
           refine pU 4 (some 19) #[T,T,T,T,T,F,F,F,F,F,F,F] rfl rfl HT_.out ?_
           refine pU 5 (some 20) #[T,T,T,T,T,T,F,F,F,F,F,F] rfl rfl HT_.out ?_
           refine pU 6 (some 21) #[T,T,T,T,T,T,T,F,F,F,F,F] rfl rfl HT_.out ?_
           refine pU 7 (some 22) #[T,T,T,T,T,T,T,T,F,F,F,F] rfl rfl HT_.out ?_
           refine tU2 8 (some 23) #[T,T,T,T,T,T,T,T,T,F,F,F] rfl rfl HT_.out HW_.out hHeld ?_
           refine one_ (i := 9) (N := some 24) #[T,T,T,T,T,T,T,T,T,T,F,F] rfl rfl (one_of HT_.out (by kernel_rfl)) (by decide) (fun K hK => ?_)
           refine goes_ Tryd.func60 (by kernel_rfl) rfl #[.slice (some ad121) y124.length c0, .string ((rd_T46 l0 x10_1).f0)] (by rfl) rfl rfl (by (try simp only [List.map_toArray, List.map_cons, List.map_nil]); first | done | rfl | (simp only [List.length_drop, List.length_take]; rfl)) ?_
           with_reducible refine (impl_tripNamed.calls _ _ y124 ((rd_T46 l0 x10_1).f0) t128 _ ?side1 ?side2 A10.out).mono ?_
           (case side1 => repeat (first | exact (Kd.C_below HR127.out HB.out) | (with_reducible refine Kd.C_alloc ?_ _) | (with_reducible refine Kd.C_drewN ?_ _) | (with_reducible refine Kd.C_drew ?_)))
           (case side2 => exact HC127.out)
           rintro e w25 ⟨rfl, hb⟩
           refine ⟨_, rfl, ?_⟩
           have n_ := aA (nBB BK122.out hb) <| aM (below_step (nH1 HB.out GE122.out) hb); clear BK122 HB; obtain ⟨BK122, HB⟩ := n_; (try clear hb); (try clear hb2); (try clear hk); (try clear hi)
           refine hK.out _ _ ⟨(blk_cell BK122.out 0).trans rfl, (blk_cell BK122.out 1).trans rfl⟩ (fun hHeld => ?_)
           clear hK K
           refine norm_ (a' := ?_) ?_ ?_
           rotate_left
           · show Act.put _ (some 24) _ = _
             simp only [Act.put, List.setIfInBounds_toArray, List.set_cons_zero, List.set_cons_succ, i64_w, i32_w]
             rfl
           refine pU 10 (some 25) #[T,T,T,T,T,T,T,T,T,T,T,F] rfl rfl HT_.out ?_
           refine pU 11 (some 26) #[T,T,T,T,T,T,T,T,T,T,T,T] rfl rfl HT_.out ?_
           refine done_ (done_of HT_.out (by kernel_rfl)) ?_
           try go_wp2
           go_roundg k1
           case measure => have := HK1.out; omega
           case rel => exact ⟨(wrap64 (x10_1 + 1)), nS, H', ⟨by have := HK1.out; omega⟩, ⟨nH1 HB.out GE122.out⟩⟩
       · replace c7 := Bool.eq_false_iff.mpr c7
         subst c7
         rw [if_neg nN] at H; obtain rfl := Option.some.inj H
         have p121 : 0 ≤ (x10_1 : Int) := of_decide_eq_true nQ
         have q121 : x10_1 < (l0.length : Int) := of_decide_eq_true nQ
         obtain ⟨ad121, A121_1, c121_1, e121, hx121_0, hx121_1, hl121_1, hi121_1⟩ := at_T46 HR0.out x10_1 p121 q121
         cases e121
         replace hx121_0 := (HB.out.cell (World.block_lt_of_cell? w _ hx121_0)).trans hx121_0
         replace hx121_1 := (HB.out.cell (World.block_lt_of_cell? w _ hx121_1)).trans hx121_1
         have HR121_1 := aM hi121_1
         have HC121_1 := aM hl121_1
         clear hi121_1 hl121_1; replace p121 := eq_true p121; replace q121 := eq_true q121
         try go_wp2_with (first | (refine nBx 4 rfl #[.string (⟨#[]⟩ : ByteArray), .slice none 0 0] 46 ?_; intro gb122 hg w26 hbox hb; have n_ := aA (below_step (nH HB.out) hb) <| aA (hbox) <| aA (bS hg (nH HB.out)) <| aM (bS hg (nH HB.out)); clear HB; obtain ⟨HB, BK122, GW122, GE122⟩ := n_; clear hb hbox hg; obtain ⟨hcz27_0, hcz27_1, hfz27_0, hfz27_1⟩ := nK2 BK122.out))
         have n0_ : Aside0 (((w26.setCell ⟨gb122, 0, none⟩ (.string ((rd_T46 l0 x10_1).f0))).setCell ⟨gb122, 1, none⟩ (.slice A121_1 ((rd_T46 l0 x10_1).f1).length c121_1)).heap[gb122]? = some (.cells #[.string ((rd_T46 l0 x10_1).f0), .slice A121_1 ((rd_T46 l0 x10_1).f1).length c121_1] 46 (0, 0))) := ⟨by refine nE ?_; refine blk_put (cs := #[.string ((rd_T46 l0 x10_1).f0), .slice none 0 0]) ?_ 1 _ rfl; refine nE ?_; refine blk_put (cs := #[.string (⟨#[]⟩ : ByteArray), .slice none 0 0]) ?_ 0 _ rfl; refine nE ?_; exact BK122.out⟩
         have n1_ : Aside0 (Below w.heap.size w ((w26.setCell ⟨gb122, 0, none⟩ (.string ((rd_T46 l0 x10_1).f0))).setCell ⟨gb122, 1, none⟩ (.slice A121_1 ((rd_T46 l0 x10_1).f1).length c121_1))) := ⟨nH1 HB.out GE122.out⟩
         (try clear BK122); (try clear HB)
         generalize ((w26.setCell ⟨gb122, 0, none⟩ (.string ((rd_T46 l0 x10_1).f0))).setCell ⟨gb122, 1, none⟩ (.slice A121_1 ((rd_T46 l0 x10_1).f1).length c121_1)) = w28 at n0_ n1_ ⊢
         have BK122 := n0_; have HB := n1_; clear n0_ n1_
         have n_ := aA (blk_drew BK122.out) <| aM (below_drew1 HB.out); clear BK122 HB; obtain ⟨BK122, HB⟩ := n_
         refine start_ (n := 12) (S := fun w' => w'.cell? ⟨gb122, 0, none⟩ = some (.string ((rd_T46 l0 x10_1).f0)) ∧ w'.cell? ⟨gb122, 1, none⟩ = some (.slice A121_1 ((rd_T46 l0 x10_1).f1).length c121_1)) (ds := []) #[F,F,F,F,F,F,F,F,F,F,F,F] (by kernel_rfl) rfl rfl ⟨(blk_cell BK122.out 0).trans rfl, (blk_cell BK122.out 1).trans rfl⟩ (fun hHeld => ?_); refine with_tabW impl_TableOk.tab6 impl_TableOk.bits6 (fun HT_ HW_ => ?_)
         generalize w28.drew = w29 at BK122 HB hHeld ⊢
         refine tU2 0 (some 15) #[T,F,F,F,F,F,F,F,F,F,F,F] rfl rfl HT_.out HW_.out hHeld ?_
         refine one_ (i := 1) (N := some 16) #[T,T,F,F,F,F,F,F,F,F,F,F] rfl rfl (one_of HT_.out (by kernel_rfl)) (by decide) (fun K hK => ?_)
         refine goes_ Tryd.func59 (by kernel_rfl) rfl #[.agg #[.string ((rd_T46 l0 x10_1).f0), .slice A121_1 ((rd_T46 l0 x10_1).f1).length c121_1]] (by rfl) rfl rfl (by (try simp only [List.map_toArray, List.map_cons, List.map_nil]); first | done | rfl | (simp only [List.length_drop, List.length_take]; rfl)) ?_
         with_reducible refine (impl_TripOk.calls k1 ((rd_T46 l0 x10_1).f0) _ _ ((rd_T46 l0 x10_1).f1) false _ ?side1 ?side2 A6.out).mono ?_
         (case side1 => repeat (first | exact (Kd.C_below HR121_1.out HB.out) | (with_reducible refine Kd.C_alloc ?_ _) | (with_reducible refine Kd.C_drewN ?_ _) | (with_reducible refine Kd.C_drew ?_)))
         (case side2 => exact HC121_1.out)
         rintro e w30 ⟨rfl, hb⟩
         refine ⟨_, rfl, ?_⟩
         have n_ := aA (nBB BK122.out hb) <| aM (below_step (nH1 HB.out GE122.out) hb); clear BK122 HB; obtain ⟨BK122, HB⟩ := n_; (try clear hb); (try clear hb2); (try clear hk); (try clear hi)
         refine hK.out _ _ ⟨(blk_cell BK122.out 0).trans rfl, (blk_cell BK122.out 1).trans rfl⟩ (fun hHeld => ?_)
         clear hK K
         refine norm_ (a' := ?_) ?_ ?_
         rotate_left
         · show Act.put _ (some 16) _ = _
           simp only [Act.put, List.setIfInBounds_toArray, List.set_cons_zero, List.set_cons_succ, i64_w, i32_w]
           rfl
         refine pU 2 (some 17) #[T,T,T,F,F,F,F,F,F,F,F,F] rfl rfl HT_.out ?_
         refine pU 3 (some 18) #[T,T,T,T,F,F,F,F,F,F,F,F] rfl rfl HT_.out ?_
         refine pV 4 (some 19) #[T,T,T,T,T,F,F,F,F,F,F,F] rfl rfl HT_.out ?_
         refine pV 5 (some 20) #[T,T,T,T,T,T,F,F,F,F,F,F] rfl rfl HT_.out ?_
         refine pV 6 (some 21) #[T,T,T,T,T,T,T,F,F,F,F,F] rfl rfl HT_.out ?_
         refine pV 7 (some 22) #[T,T,T,T,T,T,T,T,F,F,F,F] rfl rfl HT_.out ?_
         refine pV 8 (some 23) #[T,T,T,T,T,T,T,T,T,F,F,F] rfl rfl HT_.out ?_
         refine pV 9 (some 24) #[T,T,T,T,T,T,T,T,T,T,F,F] rfl rfl HT_.out ?_
         refine pV 10 (some 25) #[T,T,T,T,T,T,T,T,T,T,T,F] rfl rfl HT_.out ?_
         refine pU 11 (some 26) #[T,T,T,T,T,T,T,T,T,T,T,T] rfl rfl HT_.out ?_
         refine done_ (done_of HT_.out (by kernel_rfl)) ?_
         try go_wp2
         go_ret
         exact ⟨by first | rfl | (simp [errW_none, errW_some] <;> rfl) | (simp [*, errW_none, errW_some] <;> first | rfl | (simp [wrap64]; done)), nH1 HB.out GE122.out⟩
     · rw [if_neg c3] at H
       have c3b0 : decide (x10_1 < (l0.length : Int)) = false := decide_eq_false c3
       clear c3; obtain rfl := Option.some.inj H; go_wp2; go_ret
       exact ⟨by first | rfl | (simp [errW_none, errW_some] <;> rfl) | (simp [*, errW_none, errW_some] <;> first | rfl | (simp [wrap64]; done)), nH HB.out⟩
end Go.Proofs.YtdpjoblnjjkbfaaDoor.P

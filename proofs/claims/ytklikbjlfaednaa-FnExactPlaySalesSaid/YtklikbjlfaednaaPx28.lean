/- Contracts of the functions of the program, each one with its plain Lean function; written by a program of the session out of the translation. -/
import Derived.Test.YtklikbjlfaednaaNe
import Derived.Test.YtklikbjlfaednaaNb
import Derived.Test.YtklikbjlfaednaaPx0
namespace Go.Proofs.Ytklikbjlfaednaa.P
open Go.RowKit Go.Proofs.YtklikbjlfaednaaW.PrintWords Go.Proofs.YtklikbjlfaednaaW.PrintLast Go.Proofs.YtklikbjlfaednaaW.PrintMore
attribute [local go_sem] max2_int min2_int max_two min_two max_three min_three max_four min_four   -- for this text's walks alone
set_option linter.unusedVariables false
set_option linter.unusedSimpArgs false
/-! ### spec_l14Same: function 58 -/
theorem spec_l14Same.mono_l : ∀ k, (∀ y0 y1 y2 y3 y4 y5 y6, LeO (spec_l14Same.l0 k y0 y1 y2 y3 y4 y5 y6) (spec_l14Same.l0 (k + 1) y0 y1 y2 y3 y4 y5 y6))
 | 0 => fun _ _ _ _ _ _ _ r h => by simp [spec_l14Same.l0] at h
 | k + 1 => by
  have ih0 := spec_l14Same.mono_l k
  · intro y0 y1 y2 y3 y4 y5 y6
    unfold spec_l14Same.l0
    repeat' first
    | (with_reducible exact ih0 _ _ _ _ _ _ _)
    | (with_reducible exact LeO.refl _)
    | (with_reducible exact LeO.none _)
    | (with_reducible refine LeO.ite ?_ ?_)
    | (with_reducible refine LeO.bind ?_ (fun _ => ?_))
    | exact ih0 _ _ _ _ _ _ _
    | exact LeO.none _
    | refine LeO.ite ?_ ?_
    | refine LeO.bind ?_ (fun _ => ?_)
theorem spec_l14Same.mono : ∀ a0 a1 a2 k, LeO (spec_l14Same.f k a0 a1 a2) (spec_l14Same.f (k + 1) a0 a1 a2) := by
 intro a0 a1 a2 k
 have ih0 := spec_l14Same.mono_l k
 unfold spec_l14Same.f
 repeat' first
  | (with_reducible exact ih0 _ _ _ _ _ _ _)
  | (with_reducible exact LeO.refl _)
  | (with_reducible exact LeO.none _)
  | (with_reducible refine LeO.ite ?_ ?_)
  | (with_reducible refine LeO.bind ?_ (fun _ => ?_))
  | exact ih0 _ _ _ _ _ _ _
  | exact LeO.none _
  | refine LeO.ite ?_ ?_
  | refine LeO.bind ?_ (fun _ => ?_)
def spec_l14Same.T5 : Bool × List (List Nat × List Nat) := (true, [([], []), ([0], [0]), ([], []), ([2], [2]), ([], []), ([3, 4], [3, 4]), ([5], [5]), ([6], [6]), ([1, 7], [1, 7]), ([0, 1, 2, 3, 4, 5, 6, 7, 8], []), ([9, 8, 8, 0, 1, 2, 3, 4, 5, 6, 7, 8], [8, 9])])
def spec_l14Same.B5 : List Nat := [0, 1, 0, 4, 0, 28, 60, 124, 255, 511, 1023]
theorem spec_l14Same.tab5 : rtab .any (opsOf Try.f58 5) = spec_l14Same.T5 := by kernel_rfl
theorem spec_l14Same.bits5 : waitsOk spec_l14Same.T5.2 spec_l14Same.B5 = true := by kernel_rfl
set_option maxHeartbeats 8000000 in
set_option maxRecDepth 100000 in
theorem spec_l14Same.calls (k : Nat) (a0_0 : Int) (a0_1 : Int) (A0_2 : Option Addr) (c0_2 : Nat) (l0_2 : List (S66)) (r1 : Int) (r2 : Int) (r3 : List (S66)) (w : World) (hr0_2 : Kd.C k66 w A0_2 l0_2.length l0_2) (hc0_2 : l0_2.length ≤ c0_2) (h : spec_l14Same.f k a0_0 a0_1 l0_2 = some (r1, r2, r3)) :
 Calls Try.prog 58 #[.agg #[.int .i64 a0_0, .int .i64 a0_1, .slice A0_2 l0_2.length c0_2]] w fun e w' => ∃ v2_ : Value, e = .returned (.agg #[.int .i64 r1, .int .i64 r2, v2_]) ∧ Kd.R k66 66 w' w.heap.size (fun _ => True) v2_ r3 ∧ Below w.heap.size w w' := by
 have hu29 := Try.underlying29; have hu66 := Try.underlying66
 have HR0_2 := aM hr0_2
 have HC0_2 := aM hc0_2
 clear hr0_2 hc0_2
 have HB := aM (Below.refl w.heap.size w)
 have H : (spec_l14Same.l0 k 0 a0_0 a0_1 l0_2 a0_0 a0_1 ([] : List (S66))) = some (r1, r2, r3) := h
 clear h
 have H' := aM H
 clear H
 go_enter Try.func58, Try.ntmps58
 go_wp2_with (first | (refine nBx 1 rfl #[.int .i64 a0_0, .int .i64 a0_1, .slice A0_2 l0_2.length c0_2] 29 ?_; intro gb179 hg w2 hbox hb; have n_ := aA (below_step (nH HB.out) hb) <| aA (hbox) <| aA (bS hg (nH HB.out)) <| aM (bS hg (nH HB.out)); clear HB; obtain ⟨HB, BK179, GW179, GE179⟩ := n_; clear hb hbox hg) | (refine nBx 2 rfl #[.int .i64 0, .int .i64 0, .slice none 0 0] 29 ?_; intro gb180 hg w3 hbox hb; have n_ := aA (nBB BK179.out hb) <| aA (below_step (nH1 HB.out GE179.out) hb) <| aA (hbox) <| aA (bS hg (nH1 HB.out GE179.out)) <| aA (bS hg (nH1 HB.out GE179.out)) <| aA (nBL BK179.out hg) <| aM (by rw [hg]; exact Nat.ne_of_gt (blk_lt (g := gb179) (o := .cells #[.int .i64 a0_0, .int .i64 a0_1, .slice A0_2 l0_2.length c0_2] 29 (0, 0)) (nB BK179.out)) : gb180 ≠ gb179); clear BK179 HB; obtain ⟨BK179, HB, BK180, GW180, GE180, NB179_180, NB180_179⟩ := n_; clear hb hbox hg; have hnb4 := NB179_180.out; have hnc4 := NB180_179.out; obtain ⟨hcz5_0, hcz5_1, hcz5_2, hfz5_0, hfz5_1, hfz5_2⟩ := nK3 BK179.out) | (refine nBx 3 rfl #[.int .i64 0, .int .i64 0, .slice none 0 0] 29 ?_; intro gb181 hg w6 hbox hb; have n_ := aA (nBB BK179.out hb) <| aA (nBB BK180.out hb) <| aA (below_step (nH2 HB.out GE179.out GE180.out) hb) <| aA (hbox) <| aA (bS hg (nH2 HB.out GE179.out GE180.out)) <| aA (bS hg (nH2 HB.out GE179.out GE180.out)) <| aA (nBL BK179.out hg) <| aA (by rw [hg]; exact Nat.ne_of_gt (blk_lt (g := gb179) (o := .cells #[.int .i64 a0_0, .int .i64 a0_1, .slice A0_2 l0_2.length c0_2] 29 (0, 0)) (nB BK179.out)) : gb181 ≠ gb179) <| aA (nBL BK180.out hg) <| aM (by rw [hg]; exact Nat.ne_of_gt (blk_lt (g := gb180) (o := .cells #[.int .i64 0, .int .i64 0, .slice none 0 0] 29 (0, 0)) (nB BK180.out)) : gb181 ≠ gb180); clear BK179 BK180 HB; obtain ⟨BK179, BK180, HB, BK181, GW181, GE181, NB179_181, NB181_179, NB180_181, NB181_180⟩ := n_; clear hb hbox hg; have hnb7 := NB181_179.out; have hnc7 := NB179_181.out; have hnb8 := NB181_180.out; have hnc8 := NB180_181.out; obtain ⟨hcz9_0, hcz9_1, hcz9_2, hfz9_0, hfz9_1, hfz9_2⟩ := nK3 BK181.out))
 go_loopg [4] k (fun kq v4 w' => ∃ (x4_1 : Int) (x182002_1 : List (S66)) (u182002 : Value), v4 = .int .i64 x4_1 ∧ Aside0 (spec_l14Same.l0 kq x4_1 a0_0 a0_1 l0_2 a0_0 a0_1 x182002_1 = some (r1, r2, r3)) ∧ Aside0 (kq ≤ k) ∧ Aside0 (Kd.R k66 66 w' w.heap.size (fun _ => True) u182002 x182002_1) ∧ Aside0 (w'.heap[gb179]? = some (.cells #[.int .i64 a0_0, .int .i64 a0_1, (.slice A0_2 l0_2.length c0_2)] 29 (0, 0))) ∧ Aside0 (w'.heap[gb180]? = some (.cells #[.int .i64 0, .int .i64 0, (.slice none 0 0)] 29 (0, 0))) ∧ Aside0 (w'.heap[gb181]? = some (.cells #[.int .i64 a0_0, .int .i64 a0_1, u182002] 29 (0, 0))) ∧ Aside0 (Below w.heap.size w w'))
 case atStart => exact ⟨(0), (([] : List (S66))), (.slice none 0 0), nS, H', ⟨Nat.le_refl _⟩, ⟨by first | exact Kd.R_nil _ _ _ _ _ | exact Kd.N_nil _ _ _ _ _ | exact Kd.V_nil _ _ _ _ _ | exact Kd.Q_nil _ _ _ _ _ | exact Kd.S_nil _ _ _ _ _⟩, ⟨by refine nE ?_; refine blk_far ?_ NB179_181.out _; refine nE ?_; refine blk_far ?_ NB179_181.out _; refine nE ?_; refine blk_far ?_ NB179_181.out _; refine nE ?_; exact BK179.out⟩, ⟨by refine nE ?_; refine blk_far ?_ NB180_181.out _; refine nE ?_; refine blk_far ?_ NB180_181.out _; refine nE ?_; refine blk_far ?_ NB180_181.out _; refine nE ?_; exact BK180.out⟩, ⟨by refine nE ?_; refine blk_put (cs := #[.int .i64 a0_0, .int .i64 a0_1, .slice none 0 0]) ?_ 2 _ rfl; refine nE ?_; refine blk_put (cs := #[.int .i64 a0_0, .int .i64 0, .slice none 0 0]) ?_ 1 _ rfl; refine nE ?_; refine blk_put (cs := #[.int .i64 0, .int .i64 0, .slice none 0 0]) ?_ 0 _ rfl; refine nE ?_; exact BK181.out⟩, ⟨nH3 HB.out GE179.out GE180.out GE181.out⟩⟩
 case round =>
  clear H'
  try clear p2; try clear c4; try clear c5; try clear c7; try clear c8; try clear hcz5_0; try clear hcz5_1; try clear hcz5_2; try clear hcz9_0; try clear hcz9_1; try clear hcz9_2; try clear hfz5_0; try clear hfz5_1; try clear hfz5_2; try clear hfz9_0; try clear hfz9_1; try clear hfz9_2
  obtain ⟨x4_1, x182002_1, u182002, rfl, HA, HK1, HO_182002, BK179, BK180, BK181, HB⟩ := hrel
  cases gk with
  | zero => exact absurd HA.out (by simp [spec_l14Same.l0])
  | succ k1 =>
   have H := HA.out; clear HA
   simp only [spec_l14Same.l0] at H
   by_cases c10 : x4_1 < (l0_2.length : Int)
   · rw [if_pos c10] at H
     have c10b0 : decide (x4_1 < (l0_2.length : Int)) = true := decide_eq_true c10
     clear c10
     by_cases c11 : 0 ≤ x4_1
     rotate_left
     · (rw [if_neg c11] at H; exact absurd H (by simp))
     rw [if_pos c11] at H
     have c11b0 : decide (0 ≤ x4_1) = true := decide_eq_true c11
     clear c11
     by_cases c12 : x182002_1.length < 4398046511104
     rotate_left
     · (rw [if_neg c12] at H; exact absurd H (by simp))
     rw [if_pos c12] at H
     have LMc12 := aM c12
     clear c12
     obtain ⟨y183, hy183⟩ : ∃ y_ : List (S66), y_ = (x182002_1 ++ [(⟨(rd_T66 l0_2 x4_1).f0, (rd_T66 l0_2 x4_1).f1, (rd_T66 l0_2 x4_1).f2, (rd_T66 l0_2 x4_1).f3⟩ : S66)]) := ⟨_, rfl⟩
     replace H : (spec_l14Same.l0 k1 (wrap64 (x4_1 + 1)) a0_0 a0_1 l0_2 a0_0 a0_1 y183) = some (r1, r2, r3) := by first | (rw [hy183]; with_reducible exact H) | (have H2_ := (Option.bind_some _ _).symm.trans H; rw [hy183]; with_reducible exact H2_) | (have H2_ := (Option.bind_some _ _).symm.trans H; with_reducible exact H2_) | with_reducible exact H | (rw [hy183]; exact H) | exact H
     have Ny183 := aM hy183
     clear hy183
     have H' := aM H
     clear H; have hnb13 := NB179_180.out; have hnc13 := NB180_179.out; have hnb14 := NB179_181.out; have hnc14 := NB181_179.out
     obtain ⟨hcz15_0, hcz15_1, hcz15_2, hfz15_0, hfz15_1, hfz15_2⟩ := nK3 BK179.out
     try go_wp2
     have n_ := aA (Kd.R_drew HO_182002.out) <| aA (blk_drew BK179.out) <| aA (blk_drew BK180.out) <| aA (blk_drew BK181.out) <| aM (below_drew1 HB.out); clear HO_182002 BK179 BK180 BK181 HB; obtain ⟨HO_182002, BK179, BK180, BK181, HB⟩ := n_
     have p182 : 0 ≤ (x4_1 : Int) := of_decide_eq_true nQ
     have q182 : x4_1 < (l0_2.length : Int) := of_decide_eq_true nQ
     obtain ⟨ad182, e182, hx182_0, hx182_1, hx182_2, hx182_3⟩ := at_T66 HR0_2.out x4_1 p182 q182
     have hw182_3 := hx182_3; have hw182_2 := hx182_2; have hw182_1 := hx182_1; have hw182_0 := hx182_0; cases e182
     replace hx182_0 := (HB.out.cell (World.block_lt_of_cell? w _ hx182_0)).trans hx182_0
     replace hx182_1 := (HB.out.cell (World.block_lt_of_cell? w _ hx182_1)).trans hx182_1
     replace hx182_2 := (HB.out.cell (World.block_lt_of_cell? w _ hx182_2)).trans hx182_2
     replace hx182_3 := (HB.out.cell (World.block_lt_of_cell? w _ hx182_3)).trans hx182_3
     replace p182 := eq_true p182; replace q182 := eq_true q182
     refine start_ (n := 11) (S := fun w' => w'.cell? ⟨gb181, 0, none⟩ = some (.int .i64 a0_0) ∧ w'.cell? ⟨gb181, 1, none⟩ = some (.int .i64 a0_1) ∧ w'.cell? ⟨gb181, 2, none⟩ = some (u182002) ∧ w'.cell? ⟨gb179, 0, none⟩ = some (.int .i64 a0_0) ∧ w'.cell? ⟨gb179, 1, none⟩ = some (.int .i64 a0_1) ∧ w'.cell? ⟨gb179, 2, none⟩ = some (.slice (some ad182) l0_2.length c0_2) ∧ w'.cell? (ad182.add ((x4_1).toNat * 4)) = some (.int .i64 ((rd_T66 l0_2 x4_1).f0)) ∧ w'.cell? ⟨(ad182.add ((x4_1).toNat * 4)).block, (ad182.add ((x4_1).toNat * 4)).off + 1, none⟩ = some (.int .i64 ((rd_T66 l0_2 x4_1).f1)) ∧ w'.cell? ⟨(ad182.add ((x4_1).toNat * 4)).block, (ad182.add ((x4_1).toNat * 4)).off + 2, none⟩ = some (.int .i64 ((rd_T66 l0_2 x4_1).f2)) ∧ w'.cell? ⟨(ad182.add ((x4_1).toNat * 4)).block, (ad182.add ((x4_1).toNat * 4)).off + 3, none⟩ = some (.int .i64 ((rd_T66 l0_2 x4_1).f3))) (ds := [10]) #[F,F,F,F,F,F,F,F,F,F,F] (by kernel_rfl) rfl rfl ⟨(blk_cell BK181.out 0).trans rfl, (blk_cell BK181.out 1).trans rfl, (blk_cell BK181.out 2).trans rfl, (blk_cell BK179.out 0).trans rfl, (blk_cell BK179.out 1).trans rfl, (blk_cell BK179.out 2).trans rfl, (nC HB.out hw182_0 :), (nC HB.out hw182_1 :), (nC HB.out hw182_2 :), (nC HB.out hw182_3 :)⟩ (fun hHeld => ?_); refine with_tabW spec_l14Same.tab5 spec_l14Same.bits5 (fun HT_ HW_ => ?_)
     generalize wr.drew = w16 at HO_182002 BK179 BK180 BK181 HB hx182_0 hx182_1 hx182_2 hx182_3 hHeld ⊢
     refine pU 0 (some 17) #[T,F,F,F,F,F,F,F,F,F,F] rfl rfl HT_.out ?_
     refine pU 2 (some 19) #[T,F,T,F,F,F,F,F,F,F,F] rfl rfl HT_.out ?_
     refine pU 4 (some 21) #[T,F,T,F,T,F,F,F,F,F,F] rfl rfl HT_.out ?_
     refine tU10 1 (some 18) #[T,T,T,F,T,F,F,F,F,F,F] rfl rfl HT_.out HW_.out hHeld ?_
     refine tU10 3 (some 20) #[T,T,T,T,T,F,F,F,F,F,F] rfl rfl HT_.out HW_.out hHeld ?_
     refine pU 5 (some 22) #[T,T,T,T,T,T,F,F,F,F,F] rfl rfl HT_.out ?_
     refine tU10 6 (some 23) #[T,T,T,T,T,T,T,F,F,F,F] rfl rfl HT_.out HW_.out hHeld ?_
     refine one_ (i := 7) (N := some 24) #[T,T,T,T,T,T,T,T,F,F,F] rfl rfl (one_of HT_.out (by kernel_rfl)) (by decide) (fun K hK => ?_)
     refine value_ (w1 := ?_) (v := ?_) (by rfl) rfl ?_ ?_
     rotate_left 2
     · go_simp
       constructor
       · rfl
       · rfl
     refine hK.out _ _ ⟨(blk_cell (blk_alloc BK181.out _) 0).trans rfl, (blk_cell (blk_alloc BK181.out _) 1).trans rfl, (blk_cell (blk_alloc BK181.out _) 2).trans rfl, (blk_cell (blk_alloc BK179.out _) 0).trans rfl, (blk_cell (blk_alloc BK179.out _) 1).trans rfl, (blk_cell (blk_alloc BK179.out _) 2).trans rfl, (World.cell?_alloc_lt _ _ _ (World.block_lt_of_cell? _ _ ((nC HB.out hw182_0 :)))).trans ((nC HB.out hw182_0 :)), (World.cell?_alloc_lt _ _ _ (World.block_lt_of_cell? _ _ ((nC HB.out hw182_1 :)))).trans ((nC HB.out hw182_1 :)), (World.cell?_alloc_lt _ _ _ (World.block_lt_of_cell? _ _ ((nC HB.out hw182_2 :)))).trans ((nC HB.out hw182_2 :)), (World.cell?_alloc_lt _ _ _ (World.block_lt_of_cell? _ _ ((nC HB.out hw182_3 :)))).trans ((nC HB.out hw182_3 :))⟩ (fun hHeld => ?_)
     clear hK K
     refine norm_ (a' := ?_) ?_ ?_
     rotate_left
     · show Act.put _ (some 24) _ = _
       simp only [Act.put, List.setIfInBounds_toArray, List.set_cons_zero, List.set_cons_succ, i64_w, i32_w]
       rfl
     refine one_ (i := 8) (N := some 25) #[T,T,T,T,T,T,T,T,T,F,F] rfl rfl (one_of HT_.out (by kernel_rfl)) (by decide) (fun K hK => ?_)
     refine Kd.R_append_step k66 (w0 := w) w.heap.size (by rfl) (.tmp 18) (.tmp 24) 27 66 (.agg #[(.int .i64 0), (.int .i64 0), (.int .i64 0), (.int .i64 0)]) 32 rfl Try.underlying27 info66 rfl (by decide) (by omega) u182002 x182002_1 (⟨(rd_T66 l0_2 x4_1).f0, (rd_T66 l0_2 x4_1).f1, (rd_T66 l0_2 x4_1).f2, (rd_T66 l0_2 x4_1).f3⟩ : S66) [.int .i64 ((rd_T66 l0_2 x4_1).f0), .int .i64 ((rd_T66 l0_2 x4_1).f1), .int .i64 ((rd_T66 l0_2 x4_1).f2), .int .i64 ((rd_T66 l0_2 x4_1).f3)] (fun _ => True) (fun _ => False) rfl rfl ?aP (fun _ hk => hk.elim) ?aF ?aO ?aB ?aS ?aL ?_
     (case aP => exact k66_mkM _ _ _ (⟨(rd_T66 l0_2 x4_1).f0, (rd_T66 l0_2 x4_1).f1, (rd_T66 l0_2 x4_1).f2, (rd_T66 l0_2 x4_1).f3⟩ : S66))
     (case aB => exact (nH3 HB.out GE179.out GE180.out GE181.out))
     (case aF => exact (fun _ _ => trivial))
     (case aO => exact (nR HO_182002.out))
     (case aS => exact (below_size (nH3 HB.out GE179.out GE180.out GE181.out)))
     (case aL => have := LMc12.out; omega)
     intro v184 w17 ho hb hg hat
     rw [← Ny183.out] at ho
     have n_ := aA (blk_grown (g := gb179) (o := .cells #[.int .i64 a0_0, .int .i64 a0_1, .slice (some ad182) l0_2.length c0_2] 29 (0, 0)) (nB BK179.out) hg (Kd.R_ne HO_182002.out BK179.out (by decide))) <| aA (blk_grown (g := gb180) (o := .cells #[.int .i64 0, .int .i64 0, .slice none 0 0] 29 (0, 0)) (nB BK180.out) hg (Kd.R_ne HO_182002.out BK180.out (by decide))) <| aA (blk_grown (g := gb181) (o := .cells #[.int .i64 a0_0, .int .i64 a0_1, u182002] 29 (0, 0)) (nB BK181.out) hg (Kd.R_ne HO_182002.out BK181.out (by decide))) <| aA (hb) <| aM (ho); clear BK179 BK180 BK181 HB HO_182002; obtain ⟨BK179, BK180, BK181, HB, HO185⟩ := n_; clear ho hb hg hat
     obtain ⟨Ao18, co18, eo18⟩ := Kd.R_slice HO185.out
     (first | subst eo18 | (injection eo18 with f1_ f2_ f3_; have f4_ := f1_.symm; have f5_ := f3_.symm; clear f1_ f2_ f3_; subst f4_; subst f5_))
     refine hK.out _ _ ⟨(blk_cell BK181.out 0).trans rfl, (blk_cell BK181.out 1).trans rfl, (blk_cell BK181.out 2).trans rfl, (blk_cell BK179.out 0).trans rfl, (blk_cell BK179.out 1).trans rfl, (blk_cell BK179.out 2).trans rfl, (nC HB.out hw182_0 :), (nC HB.out hw182_1 :), (nC HB.out hw182_2 :), (nC HB.out hw182_3 :)⟩ (fun hHeld => ?_)
     clear hK K
     refine norm_ (a' := ?_) ?_ ?_
     rotate_left
     · show Act.put _ (some 25) _ = _
       simp only [Act.put, List.setIfInBounds_toArray, List.set_cons_zero, List.set_cons_succ, i64_w, i32_w]
       rfl
     refine pU 9 (some 26) #[T,T,T,T,T,T,T,T,T,T,F] rfl rfl HT_.out ?_
     refine last_ (i := 10) (N := none) #[T,T,T,T,T,T,T,T,T,T,T] rfl rfl (one_of HT_.out (by kernel_rfl)) (by decide) (fun K hK => ?_)
     have hs19 : w17.cell? ⟨gb181, 2, none⟩ = some (u182002) := (blk_cell BK181.out 2).trans rfl
     have hfs19 := blk_frozen BK181.out 2
     have hns19_0 := NB179_181.out; have hns19_1 := NB180_181.out; have hms19_0 := NB181_179.out; have hms19_1 := NB181_180.out
     refine skip_ (w1 := ?_) (by rfl) rfl ?_ ?_
     rotate_left
     · go_simp; rfl
     refine hK.out _ _ ?_
     clear hK K
     refine done_ (done_of HT_.out (by kernel_rfl)) ?_
     try go_wp2
     go_roundg k1
     case measure => have := HK1.out; omega
     case rel => exact ⟨(wrap64 (x4_1 + 1)), (y183), (.slice Ao18 y183.length co18), nS, H', ⟨by have := HK1.out; omega⟩, ⟨by (with_reducible repeat (first | apply Kd.R_alloc | apply Kd.R_drewN | apply Kd.R_drew)); exact Kd.R_mono (Kd.R_far (p := ⟨gb181, 2, none⟩) (Kd.R_types HO185.out BK181.out (by decide)) (fun _ hk => hk.2) (.slice Ao18 y183.length co18)) (fun _ hk => trivial)⟩, ⟨by refine nE ?_; refine blk_far ?_ NB179_181.out _; refine nE ?_; exact BK179.out⟩, ⟨by refine nE ?_; refine blk_far ?_ NB180_181.out _; refine nE ?_; exact BK180.out⟩, ⟨by refine nE ?_; refine blk_put (cs := #[.int .i64 a0_0, .int .i64 a0_1, u182002]) ?_ 2 _ rfl; refine nE ?_; exact BK181.out⟩, ⟨nH3 HB.out GE179.out GE180.out GE181.out⟩⟩
   · rw [if_neg c10] at H
     have c10b0 : decide (x4_1 < (l0_2.length : Int)) = false := decide_eq_false c10
     clear c10
     simp only [Option.some.injEq, Prod.mk.injEq] at H
     obtain ⟨rfl, rfl, rfl⟩ := H
     have hnb20 := NB179_180.out; have hnc20 := NB180_179.out; have hnb21 := NB179_181.out; have hnc21 := NB181_179.out
     obtain ⟨hcz22_0, hcz22_1, hcz22_2, hfz22_0, hfz22_1, hfz22_2⟩ := nK3 BK179.out
     have hnb23 := NB181_180.out; have hnc23 := NB180_181.out
     obtain ⟨hcz24_0, hcz24_1, hcz24_2, hfz24_0, hfz24_1, hfz24_2⟩ := nK3 BK181.out
     obtain ⟨hcz25_0, hcz25_1, hcz25_2, hfz25_0, hfz25_1, hfz25_2⟩ := nK3 BK180.out
     obtain ⟨Ao26, co26, eo26⟩ := Kd.R_slice HO_182002.out
     subst eo26
     go_wp2
     refine bodyPost_ret (results_cell_row rfl _ _ gb180 29 #[.int .i64 a0_0, .int .i64 a0_1, .slice Ao26 x182002_1.length co26] (0, 0) _ rfl (by refine nE ?_; refine blk_put (cs := #[.int .i64 a0_0, .int .i64 a0_1, .slice none 0 0]) ?_ 2 _ rfl; refine nE ?_; refine blk_put (cs := #[.int .i64 a0_0, .int .i64 0, .slice none 0 0]) ?_ 1 _ rfl; refine nE ?_; refine blk_put (cs := #[.int .i64 0, .int .i64 0, .slice none 0 0]) ?_ 0 _ rfl; refine nE ?_; exact BK180.out) Try.underlying29 rfl (by kernel_rfl)) rfl ?_
     exact ⟨_, by first | rfl | (simp [errW_none, errW_some] <;> rfl) | (simp [*, errW_none, errW_some] <;> first | rfl | (simp [wrap64]; done)), by (with_reducible repeat (first | apply Kd.R_alloc | apply Kd.R_drewN | apply Kd.R_drew)); exact Kd.R_mono (Kd.R_far (p := ⟨gb180, 2, none⟩) (Kd.R_far (p := ⟨gb180, 1, none⟩) (Kd.R_far (p := ⟨gb180, 0, none⟩) (Kd.R_types HO_182002.out BK180.out (by decide)) (fun _ hk => hk.2) (.int .i64 a0_0)) (fun _ hk => hk.2) (.int .i64 a0_1)) (fun _ hk => hk.2) (.slice Ao26 x182002_1.length co26)) (fun _ hk => trivial), nH3 HB.out GE179.out GE180.out GE181.out⟩
end Go.Proofs.Ytklikbjlfaednaa.P

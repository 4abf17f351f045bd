/- Contracts of the functions of the program, each one with its plain Lean function; written by a program of the session out of the translation. -/
import Derived.Test.YtklikbjlfaednaaNe
import Derived.Test.YtklikbjlfaednaaNb
import Derived.Test.YtklikbjlfaednaaPx0
namespace Go.Proofs.Ytklikbjlfaednaa.P
open Go.RowKit Go.Proofs.YtklikbjlfaednaaW.PrintWords Go.Proofs.YtklikbjlfaednaaW.PrintLast Go.Proofs.YtklikbjlfaednaaW.PrintMore
attribute [local go_sem] max2_int min2_int max_two min_two max_three min_three max_four min_four   -- for this text's walks alone
set_option linter.unusedVariables false
set_option linter.unusedSimpArgs false
/-! ### spec_l14Held: function 59 -/
theorem spec_l14Held.mono_l : ∀ k, (∀ y0 y1 y2 y3 y4 y5 y6 y7 y8 y9 y10 y11 y12, LeO (spec_l14Held.l0 k y0 y1 y2 y3 y4 y5 y6 y7 y8 y9 y10 y11 y12) (spec_l14Held.l0 (k + 1) y0 y1 y2 y3 y4 y5 y6 y7 y8 y9 y10 y11 y12)) ∧ (∀ y0 y1 y2 y3 y4 y5 y6 y7 y8 y9 y10 y11 y12 y13, LeO (spec_l14Held.j1 k y0 y1 y2 y3 y4 y5 y6 y7 y8 y9 y10 y11 y12 y13) (spec_l14Held.j1 (k + 1) y0 y1 y2 y3 y4 y5 y6 y7 y8 y9 y10 y11 y12 y13))
 | 0 => ⟨fun _ _ _ _ _ _ _ _ _ _ _ _ _ r h => by simp [spec_l14Held.l0] at h, fun _ _ _ _ _ _ _ _ _ _ _ _ _ _ r h => by simp [spec_l14Held.j1] at h⟩
 | k + 1 => by
  obtain ⟨ih0, ih1⟩ := spec_l14Held.mono_l k
  refine ⟨?_, ?_⟩
  · intro y0 y1 y2 y3 y4 y5 y6 y7 y8 y9 y10 y11 y12
    unfold spec_l14Held.l0
    repeat' first
    | (with_reducible exact ih0 _ _ _ _ _ _ _ _ _ _ _ _ _)
    | (with_reducible exact ih1 _ _ _ _ _ _ _ _ _ _ _ _ _ _)
    | (with_reducible exact LeO.refl _)
    | (with_reducible exact LeO.none _)
    | (with_reducible refine LeO.ite ?_ ?_)
    | (with_reducible refine LeO.bind ?_ (fun _ => ?_))
    | exact ih0 _ _ _ _ _ _ _ _ _ _ _ _ _
    | exact ih1 _ _ _ _ _ _ _ _ _ _ _ _ _ _
    | exact LeO.none _
    | refine LeO.ite ?_ ?_
    | refine LeO.bind ?_ (fun _ => ?_)
  · intro y0 y1 y2 y3 y4 y5 y6 y7 y8 y9 y10 y11 y12 y13
    unfold spec_l14Held.j1
    repeat' first
    | (with_reducible exact ih0 _ _ _ _ _ _ _ _ _ _ _ _ _)
    | (with_reducible exact ih1 _ _ _ _ _ _ _ _ _ _ _ _ _ _)
    | (with_reducible exact LeO.refl _)
    | (with_reducible exact LeO.none _)
    | (with_reducible refine LeO.ite ?_ ?_)
    | (with_reducible refine LeO.bind ?_ (fun _ => ?_))
    | exact ih0 _ _ _ _ _ _ _ _ _ _ _ _ _
    | exact ih1 _ _ _ _ _ _ _ _ _ _ _ _ _ _
    | exact LeO.none _
    | refine LeO.ite ?_ ?_
    | refine LeO.bind ?_ (fun _ => ?_)
theorem spec_l14Held.mono : ∀ a0 a1 a2 a3 a4 a5 a6 a7 k, LeO (spec_l14Held.f k a0 a1 a2 a3 a4 a5 a6 a7) (spec_l14Held.f (k + 1) a0 a1 a2 a3 a4 a5 a6 a7) := by
 intro a0 a1 a2 a3 a4 a5 a6 a7 k
 obtain ⟨ih0, ih1⟩ := spec_l14Held.mono_l k
 unfold spec_l14Held.f
 repeat' first
  | (with_reducible exact ih0 _ _ _ _ _ _ _ _ _ _ _ _ _)
  | (with_reducible exact ih1 _ _ _ _ _ _ _ _ _ _ _ _ _ _)
  | (with_reducible exact LeO.refl _)
  | (with_reducible exact LeO.none _)
  | (with_reducible refine LeO.ite ?_ ?_)
  | (with_reducible refine LeO.bind ?_ (fun _ => ?_))
  | exact ih0 _ _ _ _ _ _ _ _ _ _ _ _ _
  | exact ih1 _ _ _ _ _ _ _ _ _ _ _ _ _ _
  | exact LeO.none _
  | refine LeO.ite ?_ ?_
  | refine LeO.bind ?_ (fun _ => ?_)
def spec_l14Held.T6 : Bool × List (List Nat × List Nat) := (true, [([], []), ([0], [0]), ([1], [1]), ([2], [2]), ([3, 2], [2, 3]), ([2], [2]), ([4, 5, 2], [2, 4, 5]), ([6, 2], [2, 6]), ([7, 2], [2, 7]), ([2], [2]), ([9, 2], [2, 9]), ([8, 10, 2], [2, 8, 10]), ([2, 11], [2, 11])])
def spec_l14Held.B6 : List Nat := [0, 1, 3, 7, 15, 7, 63, 127, 255, 7, 519, 2047, 4095]
theorem spec_l14Held.tab6 : rtab .any (opsOf Try.f59 6) = spec_l14Held.T6 := by kernel_rfl
theorem spec_l14Held.bits6 : waitsOk spec_l14Held.T6.2 spec_l14Held.B6 = true := by kernel_rfl
def spec_l14Held.T10 : Bool × List (List Nat × List Nat) := (true, [([], []), ([0], [0]), ([], []), ([2], [2]), ([], []), ([3, 4], [3, 4]), ([5], [5]), ([6], [6]), ([1, 7], [1, 7]), ([0, 1, 2, 3, 4, 5, 6, 7, 8], []), ([9, 8, 8, 0, 1, 2, 3, 4, 5, 6, 7, 8], [8, 9])])
def spec_l14Held.B10 : List Nat := [0, 1, 0, 4, 0, 28, 60, 124, 255, 511, 1023]
theorem spec_l14Held.tab10 : rtab .any (opsOf Try.f59 10) = spec_l14Held.T10 := by kernel_rfl
theorem spec_l14Held.bits10 : waitsOk spec_l14Held.T10.2 spec_l14Held.B10 = true := by kernel_rfl
set_option maxHeartbeats 8000000 in
set_option maxRecDepth 100000 in
theorem spec_l14Held.calls (k : Nat) (a0_0 : Int) (a0_1 : Int) (A0_2 : Option Addr) (c0_2 : Nat) (l0_2 : List (S66)) (a1 : Int) (a2_0 : Int) (a2_1 : Int) (a2_2 : Int) (a2_3 : Int) (r1 : Int) (r2 : Int) (r3 : List (S66)) (w : World) (hr0_2 : Kd.C k66 w A0_2 l0_2.length l0_2) (hc0_2 : l0_2.length ≤ c0_2) (h : spec_l14Held.f k a0_0 a0_1 l0_2 a1 a2_0 a2_1 a2_2 a2_3 = some (r1, r2, r3)) :
 Calls Try.prog 59 #[.agg #[.int .i64 a0_0, .int .i64 a0_1, .slice A0_2 l0_2.length c0_2], .int .i64 a1, .agg #[.int .i64 a2_0, .int .i64 a2_1, .int .i64 a2_2, .int .i64 a2_3]] w fun e w' => ∃ v2_ : Value, e = .returned (.agg #[.int .i64 r1, .int .i64 r2, v2_]) ∧ Kd.R k66 66 w' w.heap.size (fun _ => True) v2_ r3 ∧ Below w.heap.size w w' := by
 have hu29 := Try.underlying29; have hu66 := Try.underlying66
 have HR0_2 := aM hr0_2
 have HC0_2 := aM hc0_2
 clear hr0_2 hc0_2
 have HB := aM (Below.refl w.heap.size w)
 have H : (spec_l14Held.l0 k a1 (a2_0 == 0) 0 a0_0 a0_1 l0_2 a2_0 a2_1 a2_2 a2_3 a0_0 a0_1 ([] : List (S66))) = some (r1, r2, r3) := h
 clear h
 have H' := aM H
 clear H
 go_enter Try.func59, Try.ntmps59
 go_wp2_with (first | (refine nBx 3 rfl #[.int .i64 a0_0, .int .i64 a0_1, .slice A0_2 l0_2.length c0_2] 29 ?_; intro gb149 hg w4 hbox hb; have n_ := aA (below_step (nH HB.out) hb) <| aA (hbox) <| aA (bS hg (nH HB.out)) <| aM (bS hg (nH HB.out)); clear HB; obtain ⟨HB, BK149, GW149, GE149⟩ := n_; clear hb hbox hg) | (refine nBx 5 rfl #[.int .i64 a2_0, .int .i64 a2_1, .int .i64 a2_2, .int .i64 a2_3] 66 ?_; intro gb150 hg w5 hbox hb; have n_ := aA (nBB BK149.out hb) <| aA (below_step (nH1 HB.out GE149.out) hb) <| aA (hbox) <| aA (bS hg (nH1 HB.out GE149.out)) <| aA (bS hg (nH1 HB.out GE149.out)) <| aA (nBL BK149.out hg) <| aM (by rw [hg]; exact Nat.ne_of_gt (blk_lt (g := gb149) (o := .cells #[.int .i64 a0_0, .int .i64 a0_1, .slice A0_2 l0_2.length c0_2] 29 (0, 0)) (nB BK149.out)) : gb150 ≠ gb149); clear BK149 HB; obtain ⟨BK149, HB, BK150, GW150, GE150, NB149_150, NB150_149⟩ := n_; clear hb hbox hg) | (refine nBx 6 rfl #[.int .i64 0, .int .i64 0, .slice none 0 0] 29 ?_; intro gb151 hg w6 hbox hb; have n_ := aA (nBB BK149.out hb) <| aA (nBB BK150.out hb) <| aA (below_step (nH2 HB.out GE149.out GE150.out) hb) <| aA (hbox) <| aA (bS hg (nH2 HB.out GE149.out GE150.out)) <| aA (bS hg (nH2 HB.out GE149.out GE150.out)) <| aA (nBL BK149.out hg) <| aA (by rw [hg]; exact Nat.ne_of_gt (blk_lt (g := gb149) (o := .cells #[.int .i64 a0_0, .int .i64 a0_1, .slice A0_2 l0_2.length c0_2] 29 (0, 0)) (nB BK149.out)) : gb151 ≠ gb149) <| aA (nBL BK150.out hg) <| aM (by rw [hg]; exact Nat.ne_of_gt (blk_lt (g := gb150) (o := .cells #[.int .i64 a2_0, .int .i64 a2_1, .int .i64 a2_2, .int .i64 a2_3] 66 (0, 0)) (nB BK150.out)) : gb151 ≠ gb150); clear BK149 BK150 HB; obtain ⟨BK149, BK150, HB, BK151, GW151, GE151, NB149_151, NB151_149, NB150_151, NB151_150⟩ := n_; clear hb hbox hg; have hnb7 := NB149_150.out; have hnc7 := NB150_149.out; have hnb8 := NB149_151.out; have hnc8 := NB151_149.out; obtain ⟨hcz9_0, hcz9_1, hcz9_2, hfz9_0, hfz9_1, hfz9_2⟩ := nK3 BK149.out) | (refine nBx 7 rfl #[.int .i64 0, .int .i64 0, .slice none 0 0] 29 ?_; intro gb152 hg w10 hbox hb; have n_ := aA (nBB BK149.out hb) <| aA (nBB BK150.out hb) <| aA (nBB BK151.out hb) <| aA (below_step (nH3 HB.out GE149.out GE150.out GE151.out) hb) <| aA (hbox) <| aA (bS hg (nH3 HB.out GE149.out GE150.out GE151.out)) <| aA (bS hg (nH3 HB.out GE149.out GE150.out GE151.out)) <| aA (nBL BK149.out hg) <| aA (by rw [hg]; exact Nat.ne_of_gt (blk_lt (g := gb149) (o := .cells #[.int .i64 a0_0, .int .i64 a0_1, .slice A0_2 l0_2.length c0_2] 29 (0, 0)) (nB BK149.out)) : gb152 ≠ gb149) <| aA (nBL BK150.out hg) <| aA (by rw [hg]; exact Nat.ne_of_gt (blk_lt (g := gb150) (o := .cells #[.int .i64 a2_0, .int .i64 a2_1, .int .i64 a2_2, .int .i64 a2_3] 66 (0, 0)) (nB BK150.out)) : gb152 ≠ gb150) <| aA (nBL BK151.out hg) <| aM (by rw [hg]; exact Nat.ne_of_gt (blk_lt (g := gb151) (o := .cells #[.int .i64 0, .int .i64 0, .slice none 0 0] 29 (0, 0)) (nB BK151.out)) : gb152 ≠ gb151); clear BK149 BK150 BK151 HB; obtain ⟨BK149, BK150, BK151, HB, BK152, GW152, GE152, NB149_152, NB152_149, NB150_152, NB152_150, NB151_152, NB152_151⟩ := n_; clear hb hbox hg; have hnb11 := NB152_149.out; have hnc11 := NB149_152.out; have hnb12 := NB152_150.out; have hnc12 := NB150_152.out; have hnb13 := NB152_151.out; have hnc13 := NB151_152.out; obtain ⟨hcz14_0, hcz14_1, hcz14_2, hfz14_0, hfz14_1, hfz14_2⟩ := nK3 BK152.out; have hnb15 := NB150_151.out; have hnc15 := NB151_150.out; obtain ⟨hcz16_0, hcz16_1, hcz16_2, hcz16_3, hfz16_0, hfz16_1, hfz16_2, hfz16_3⟩ := nK4 BK150.out))
 go_loopg [8, 9] k (fun kq v8 v9 w' => ∃ (x8_1 : Bool) (x9_1 : Int) (x153002_1 : List (S66)) (u153002 : Value), v8 = .bool x8_1 ∧ v9 = .int .i64 x9_1 ∧ Aside0 (spec_l14Held.l0 kq a1 x8_1 x9_1 a0_0 a0_1 l0_2 a2_0 a2_1 a2_2 a2_3 a0_0 a0_1 x153002_1 = some (r1, r2, r3)) ∧ Aside0 (kq ≤ k) ∧ Aside0 (Kd.R k66 66 w' w.heap.size (fun k_ => k_ ≠ gb150) u153002 x153002_1) ∧ Aside0 (w'.heap[gb149]? = some (.cells #[.int .i64 a0_0, .int .i64 a0_1, (.slice A0_2 l0_2.length c0_2)] 29 (0, 0))) ∧ Aside0 (w'.heap[gb150]? = some (.cells #[.int .i64 a2_0, .int .i64 a2_1, .int .i64 a2_2, .int .i64 a2_3] 66 (0, 0))) ∧ Aside0 (w'.heap[gb151]? = some (.cells #[.int .i64 0, .int .i64 0, (.slice none 0 0)] 29 (0, 0))) ∧ Aside0 (w'.heap[gb152]? = some (.cells #[.int .i64 a0_0, .int .i64 a0_1, u153002] 29 (0, 0))) ∧ Aside0 (Below w.heap.size w w'))
 case atStart => exact ⟨((a2_0 == 0)), (0), (([] : List (S66))), (.slice none 0 0), nS, nS, H', ⟨Nat.le_refl _⟩, ⟨by first | exact Kd.R_nil _ _ _ _ _ | exact Kd.N_nil _ _ _ _ _ | exact Kd.V_nil _ _ _ _ _ | exact Kd.Q_nil _ _ _ _ _ | exact Kd.S_nil _ _ _ _ _⟩, ⟨by refine nE ?_; refine blk_far ?_ NB149_152.out _; refine nE ?_; refine blk_far ?_ NB149_152.out _; refine nE ?_; refine blk_far ?_ NB149_152.out _; refine nE ?_; exact BK149.out⟩, ⟨by refine nE ?_; refine blk_far ?_ NB150_152.out _; refine nE ?_; refine blk_far ?_ NB150_152.out _; refine nE ?_; refine blk_far ?_ NB150_152.out _; refine nE ?_; exact BK150.out⟩, ⟨by refine nE ?_; refine blk_far ?_ NB151_152.out _; refine nE ?_; refine blk_far ?_ NB151_152.out _; refine nE ?_; refine blk_far ?_ NB151_152.out _; refine nE ?_; exact BK151.out⟩, ⟨by refine nE ?_; refine blk_put (cs := #[.int .i64 a0_0, .int .i64 a0_1, .slice none 0 0]) ?_ 2 _ rfl; refine nE ?_; refine blk_put (cs := #[.int .i64 a0_0, .int .i64 0, .slice none 0 0]) ?_ 1 _ rfl; refine nE ?_; refine blk_put (cs := #[.int .i64 0, .int .i64 0, .slice none 0 0]) ?_ 0 _ rfl; refine nE ?_; exact BK152.out⟩, ⟨by repeat (first | (with_reducible first | exact HB.out | apply below_alloc | apply pw_below_drewN | apply below_drew1 | refine below_set ?_ GE149.out | refine below_set ?_ GE150.out | refine below_set ?_ GE151.out | refine below_set ?_ GE152.out) | exact HB.out)⟩⟩
 case round =>
  clear H'
  try clear c1; try clear p2; try clear c5; try clear c7; try clear c8; try clear c11; try clear c12; try clear c13; try clear c15; try clear hcz14_0; try clear hcz14_1; try clear hcz14_2; try clear hcz16_0; try clear hcz16_1; try clear hcz16_2; try clear hcz16_3; try clear hcz9_0; try clear hcz9_1; try clear hcz9_2; try clear hfz14_0; try clear hfz14_1; try clear hfz14_2; try clear hfz16_0; try clear hfz16_1; try clear hfz16_2; try clear hfz16_3; try clear hfz9_0; try clear hfz9_1; try clear hfz9_2
  obtain ⟨x8_1, x9_1, x153002_1, u153002, rfl, rfl, HA, HK1, HO_153002, BK149, BK150, BK151, BK152, HB⟩ := hrel
  cases gk with
  | zero => exact absurd HA.out (by simp [spec_l14Held.l0])
  | succ k1 =>
   have H := HA.out; clear HA
   simp only [spec_l14Held.l0] at H
   by_cases c17 : x9_1 < (l0_2.length : Int)
   · rw [if_pos c17] at H
     have c17b0 : decide (x9_1 < (l0_2.length : Int)) = true := decide_eq_true c17
     clear c17
     have HC18 := aM H
     clear H; have hnb19 := NB149_150.out; have hnc19 := NB150_149.out; have hnb20 := NB149_151.out; have hnc20 := NB151_149.out; have hnb21 := NB149_152.out; have hnc21 := NB152_149.out
     obtain ⟨hcz22_0, hcz22_1, hcz22_2, hfz22_0, hfz22_1, hfz22_2⟩ := nK3 BK149.out
     go_upto_region 6 with (fail)
     go_cut [37] (fun v37 wc => ∃ (kq : Nat) (x37_17 : Bool), v37 = .bool x37_17 ∧ Aside0 (spec_l14Held.j1 kq a1 x8_1 x9_1 x37_17 a0_0 a0_1 l0_2 a2_0 a2_1 a2_2 a2_3 a0_0 a0_1 x153002_1 = some (r1, r2, r3)) ∧ Aside0 (kq ≤ k1) ∧ Aside0 (Kd.R k66 66 wc w.heap.size (fun k_ => k_ ≠ gb150) u153002 x153002_1) ∧ Aside0 (wc.heap[gb149]? = some (.cells #[.int .i64 a0_0, .int .i64 a0_1, (.slice A0_2 l0_2.length c0_2)] 29 (0, 0))) ∧ Aside0 (wc.heap[gb150]? = some (.cells #[.int .i64 a2_0, .int .i64 a2_1, .int .i64 a2_2, .int .i64 a2_3] 66 (0, 0))) ∧ Aside0 (wc.heap[gb151]? = some (.cells #[.int .i64 0, .int .i64 0, (.slice none 0 0)] 29 (0, 0))) ∧ Aside0 (wc.heap[gb152]? = some (.cells #[.int .i64 a0_0, .int .i64 a0_1, u153002] 29 (0, 0))) ∧ Aside0 (Below w.heap.size w wc))
     case first =>
      have H := HC18.out; clear HC18
      by_cases c23 : x8_1 = true
      · subst c23
        rw [if_pos rfl] at H
        have H' := aM H
        clear H
        try go_wp2
        have n_ := aA (Kd.R_drew HO_153002.out) <| aA (blk_drew BK149.out) <| aA (blk_drew BK150.out) <| aA (blk_drew BK151.out) <| aA (blk_drew BK152.out) <| aM (below_drew1 HB.out); clear HO_153002 BK149 BK150 BK151 BK152 HB; obtain ⟨HO_153002, BK149, BK150, BK151, BK152, HB⟩ := n_
        refine start_ (n := 13) (S := fun w' => True) (ds := []) #[F,F,F,F,F,F,F,F,F,F,F,F,F] (by kernel_rfl) rfl rfl trivial (fun hHeld => ?_); refine with_tabW spec_l14Held.tab6 spec_l14Held.bits6 (fun HT_ HW_ => ?_)
        generalize wr.drew = w24 at HO_153002 BK149 BK150 BK151 BK152 HB hHeld ⊢
        refine pU 0 (some 25) #[T,F,F,F,F,F,F,F,F,F,F,F,F] rfl rfl HT_.out ?_
        refine pU 1 (some 26) #[T,T,F,F,F,F,F,F,F,F,F,F,F] rfl rfl HT_.out ?_
        refine pU 2 (some 27) #[T,T,T,F,F,F,F,F,F,F,F,F,F] rfl rfl HT_.out ?_
        refine pV 3 (some 28) #[T,T,T,T,F,F,F,F,F,F,F,F,F] rfl rfl HT_.out ?_
        refine pV 4 (some 29) #[T,T,T,T,T,F,F,F,F,F,F,F,F] rfl rfl HT_.out ?_
        refine pV 5 (some 30) #[T,T,T,T,T,T,F,F,F,F,F,F,F] rfl rfl HT_.out ?_
        refine pV 6 (some 31) #[T,T,T,T,T,T,T,F,F,F,F,F,F] rfl rfl HT_.out ?_
        refine pV 7 (some 32) #[T,T,T,T,T,T,T,T,F,F,F,F,F] rfl rfl HT_.out ?_
        refine pV 8 (some 33) #[T,T,T,T,T,T,T,T,T,F,F,F,F] rfl rfl HT_.out ?_
        refine pV 9 (some 34) #[T,T,T,T,T,T,T,T,T,T,F,F,F] rfl rfl HT_.out ?_
        refine pV 10 (some 35) #[T,T,T,T,T,T,T,T,T,T,T,F,F] rfl rfl HT_.out ?_
        refine pV 11 (some 36) #[T,T,T,T,T,T,T,T,T,T,T,T,F] rfl rfl HT_.out ?_
        refine pU 12 (some 37) #[T,T,T,T,T,T,T,T,T,T,T,T,T] rfl rfl HT_.out ?_
        refine done_ (done_of HT_.out (by kernel_rfl)) ?_
        try go_wp2
        go_meet
        case rel => exact ⟨_, (false), nS, H', ⟨by have := HK1.out; first | omega | exact Nat.le_refl _⟩, ⟨by (with_reducible repeat (first | apply Kd.R_alloc | apply Kd.R_drewN | apply Kd.R_drew)); exact HO_153002.out⟩, ⟨by refine nE ?_; exact BK149.out⟩, ⟨by refine nE ?_; exact BK150.out⟩, ⟨by refine nE ?_; exact BK151.out⟩, ⟨by refine nE ?_; exact BK152.out⟩, ⟨by repeat (first | (with_reducible first | exact HB.out | apply below_alloc | apply pw_below_drewN | apply below_drew1 | refine below_set ?_ GE149.out | refine below_set ?_ GE150.out | refine below_set ?_ GE151.out | refine below_set ?_ GE152.out) | exact HB.out)⟩⟩
      · replace c23 := Bool.eq_false_iff.mpr c23
        subst c23
        rw [if_neg nN] at H
        by_cases c25 : 0 ≤ x9_1
        rotate_left
        · (rw [if_neg c25] at H; exact absurd H (by simp))
        rw [if_pos c25] at H
        have c25b0 : decide (0 ≤ x9_1) = true := decide_eq_true c25
        clear c25
        (first | rw [c25b0] | (simp only [i64_w, i32_w]; rw [c25b0]) | skip)
        have H' := aM H
        clear H
        try go_wp2
        have n_ := aA (Kd.R_drew HO_153002.out) <| aA (blk_drew BK149.out) <| aA (blk_drew BK150.out) <| aA (blk_drew BK151.out) <| aA (blk_drew BK152.out) <| aM (below_drew1 HB.out); clear HO_153002 BK149 BK150 BK151 BK152 HB; obtain ⟨HO_153002, BK149, BK150, BK151, BK152, HB⟩ := n_
        have p156 : 0 ≤ (x9_1 : Int) := of_decide_eq_true nQ
        have q156 : x9_1 < (l0_2.length : Int) := of_decide_eq_true nQ
        obtain ⟨ad156, e156, hx156_0, hx156_1, hx156_2, hx156_3⟩ := at_T66 HR0_2.out x9_1 p156 q156
        have hw156_3 := hx156_3; have hw156_2 := hx156_2; have hw156_1 := hx156_1; have hw156_0 := hx156_0; cases e156
        replace hx156_0 := (HB.out.cell (World.block_lt_of_cell? w _ hx156_0)).trans hx156_0
        replace hx156_1 := (HB.out.cell (World.block_lt_of_cell? w _ hx156_1)).trans hx156_1
        replace hx156_2 := (HB.out.cell (World.block_lt_of_cell? w _ hx156_2)).trans hx156_2
        replace hx156_3 := (HB.out.cell (World.block_lt_of_cell? w _ hx156_3)).trans hx156_3
        replace p156 := eq_true p156; replace q156 := eq_true q156
        refine start_ (n := 13) (S := fun w' => w'.cell? ⟨gb149, 0, none⟩ = some (.int .i64 a0_0) ∧ w'.cell? ⟨gb149, 1, none⟩ = some (.int .i64 a0_1) ∧ w'.cell? ⟨gb149, 2, none⟩ = some (.slice (some ad156) l0_2.length c0_2) ∧ w'.cell? ⟨gb150, 0, none⟩ = some (.int .i64 a2_0) ∧ w'.cell? ⟨gb150, 1, none⟩ = some (.int .i64 a2_1) ∧ w'.cell? ⟨gb150, 2, none⟩ = some (.int .i64 a2_2) ∧ w'.cell? ⟨gb150, 3, none⟩ = some (.int .i64 a2_3) ∧ w'.cell? (ad156.add ((x9_1).toNat * 4)) = some (.int .i64 ((rd_T66 l0_2 x9_1).f0)) ∧ w'.cell? ⟨(ad156.add ((x9_1).toNat * 4)).block, (ad156.add ((x9_1).toNat * 4)).off + 1, none⟩ = some (.int .i64 ((rd_T66 l0_2 x9_1).f1)) ∧ w'.cell? ⟨(ad156.add ((x9_1).toNat * 4)).block, (ad156.add ((x9_1).toNat * 4)).off + 2, none⟩ = some (.int .i64 ((rd_T66 l0_2 x9_1).f2)) ∧ w'.cell? ⟨(ad156.add ((x9_1).toNat * 4)).block, (ad156.add ((x9_1).toNat * 4)).off + 3, none⟩ = some (.int .i64 ((rd_T66 l0_2 x9_1).f3))) (ds := []) #[F,F,F,F,F,F,F,F,F,F,F,F,F] (by kernel_rfl) rfl rfl ⟨(blk_cell BK149.out 0).trans rfl, (blk_cell BK149.out 1).trans rfl, (blk_cell BK149.out 2).trans rfl, (blk_cell BK150.out 0).trans rfl, (blk_cell BK150.out 1).trans rfl, (blk_cell BK150.out 2).trans rfl, (blk_cell BK150.out 3).trans rfl, (nC HB.out hw156_0 :), (nC HB.out hw156_1 :), (nC HB.out hw156_2 :), (nC HB.out hw156_3 :)⟩ (fun hHeld => ?_); refine with_tabW spec_l14Held.tab6 spec_l14Held.bits6 (fun HT_ HW_ => ?_)
        generalize wr.drew = w26 at HO_153002 BK149 BK150 BK151 BK152 HB hx156_0 hx156_1 hx156_2 hx156_3 hHeld ⊢
        refine pU 0 (some 25) #[T,F,F,F,F,F,F,F,F,F,F,F,F] rfl rfl HT_.out ?_
        refine pU 1 (some 26) #[T,T,F,F,F,F,F,F,F,F,F,F,F] rfl rfl HT_.out ?_
        refine pU 2 (some 27) #[T,T,T,F,F,F,F,F,F,F,F,F,F] rfl rfl HT_.out ?_
        refine pU 3 (some 28) #[T,T,T,T,F,F,F,F,F,F,F,F,F] rfl rfl HT_.out ?_
        refine pU 5 (some 30) #[T,T,T,T,F,T,F,F,F,F,F,F,F] rfl rfl HT_.out ?_
        refine pU 9 (some 34) #[T,T,T,T,F,T,F,F,F,T,F,F,F] rfl rfl HT_.out ?_
        refine tU11 4 (some 29) #[T,T,T,T,T,T,F,F,F,T,F,F,F] rfl rfl HT_.out HW_.out hHeld ?_
        refine pU 6 (some 31) #[T,T,T,T,T,T,T,F,F,T,F,F,F] rfl rfl HT_.out ?_
        refine pU 7 (some 32) #[T,T,T,T,T,T,T,T,F,T,F,F,F] rfl rfl HT_.out ?_
        refine tU11 8 (some 33) #[T,T,T,T,T,T,T,T,T,T,F,F,F] rfl rfl HT_.out HW_.out hHeld ?_
        refine tU11 10 (some 35) #[T,T,T,T,T,T,T,T,T,T,T,F,F] rfl rfl HT_.out HW_.out hHeld ?_
        refine pU 11 (some 36) #[T,T,T,T,T,T,T,T,T,T,T,T,F] rfl rfl HT_.out ?_
        refine pU 12 (some 37) #[T,T,T,T,T,T,T,T,T,T,T,T,T] rfl rfl HT_.out ?_
        refine done_ (done_of HT_.out (by kernel_rfl)) ?_
        try go_wp2
        go_meet
        case rel => exact ⟨_, (decide (((rd_T66 l0_2 x9_1).f0) > a2_0)), nS, H', ⟨by have := HK1.out; first | omega | exact Nat.le_refl _⟩, ⟨by (with_reducible repeat (first | apply Kd.R_alloc | apply Kd.R_drewN | apply Kd.R_drew)); exact HO_153002.out⟩, ⟨by refine nE ?_; exact BK149.out⟩, ⟨by refine nE ?_; exact BK150.out⟩, ⟨by refine nE ?_; exact BK151.out⟩, ⟨by refine nE ?_; exact BK152.out⟩, ⟨by repeat (first | (with_reducible first | exact HB.out | apply below_alloc | apply pw_below_drewN | apply below_drew1 | refine below_set ?_ GE149.out | refine below_set ?_ GE150.out | refine below_set ?_ GE151.out | refine below_set ?_ GE152.out) | exact HB.out)⟩⟩
     case rest =>
      clear HC18; try clear c1; try clear p1; try clear q1; try clear hx1; try clear c2; try clear p2; try clear c5; try clear c7; try clear c8; try clear c11; try clear c12; try clear c13; try clear c15; try clear p15; try clear q15; try clear hx15; try clear c17; try clear c17b0; try clear c19; try clear c20; try clear c21; try clear c23; try clear c25; try clear c25b0; try clear hcz14_0; try clear hcz14_1; try clear hcz14_2; try clear hcz16_0; try clear hcz16_1; try clear hcz16_2; try clear hcz16_3; try clear hcz22_0; try clear hcz22_1; try clear hcz22_2; try clear hcz9_0; try clear hcz9_1; try clear hcz9_2
      try clear hfz14_0; try clear hfz14_1; try clear hfz14_2; try clear hfz16_0; try clear hfz16_1; try clear hfz16_2; try clear hfz16_3; try clear hfz22_0; try clear hfz22_1; try clear hfz22_2; try clear hfz9_0; try clear hfz9_1; try clear hfz9_2; try clear hx156_0; try clear hx156_1; try clear hx156_2; try clear hx156_3; try clear p156; try clear p2; try clear q156
      obtain ⟨kq, x37_17, rfl, HA, HJ17, HO_153002, BK149, BK150, BK151, BK152, HB⟩ := hcut
      cases kq with
      | zero => exact absurd HA.out (by simp [spec_l14Held.j1])
      | succ kj17 =>
       have H := HA.out; clear HA
       simp only [spec_l14Held.j1] at H
       by_cases c27 : x37_17 = true
       · subst c27
         rw [if_pos rfl] at H
         by_cases c28 : x153002_1.length < 4398046511104
         rotate_left
         · (rw [if_neg c28] at H; exact absurd H (by simp))
         rw [if_pos c28] at H
         have LMc28 := aM c28
         clear c28
         obtain ⟨y157, hy157⟩ : ∃ y_ : List (S66), y_ = (x153002_1 ++ [(⟨a2_0, a2_1, a2_2, a2_3⟩ : S66)]) := ⟨_, rfl⟩
         replace H : (if 0 ≤ x9_1 then (if x9_1 < (l0_2.length : Int) then (if ((rd_T66 l0_2 x9_1).f0) = a1 then (spec_l14Held.l0 kj17 a1 true (wrap64 (x9_1 + 1)) a0_0 a0_1 l0_2 a2_0 a2_1 a2_2 a2_3 a0_0 a0_1 y157) else (if y157.length < 4398046511104 then (spec_l14Held.l0 kj17 a1 true (wrap64 (x9_1 + 1)) a0_0 a0_1 l0_2 a2_0 a2_1 a2_2 a2_3 a0_0 a0_1 (y157 ++ [(⟨(rd_T66 l0_2 x9_1).f0, (rd_T66 l0_2 x9_1).f1, (rd_T66 l0_2 x9_1).f2, (rd_T66 l0_2 x9_1).f3⟩ : S66)])) else (none))) else (none)) else (none)) = some (r1, r2, r3) := by first | (rw [hy157]; with_reducible exact H) | (have H2_ := (Option.bind_some _ _).symm.trans H; rw [hy157]; with_reducible exact H2_) | (have H2_ := (Option.bind_some _ _).symm.trans H; with_reducible exact H2_) | with_reducible exact H | (rw [hy157]; exact H) | exact H
         have Ny157 := aM hy157
         clear hy157
         by_cases c29 : 0 ≤ x9_1
         rotate_left
         · (rw [if_neg c29] at H; exact absurd H (by simp))
         rw [if_pos c29] at H
         have c29b0 : decide (0 ≤ x9_1) = true := decide_eq_true c29
         clear c29
         by_cases c30 : x9_1 < (l0_2.length : Int)
         rotate_left
         · (rw [if_neg c30] at H; exact absurd H (by simp))
         rw [if_pos c30] at H
         have c30b0 : decide (x9_1 < (l0_2.length : Int)) = true := decide_eq_true c30
         clear c30
         by_cases c31 : ((rd_T66 l0_2 x9_1).f0) = a1
         · rw [if_pos c31] at H
           have c31b0 : (((rd_T66 l0_2 x9_1).f0) == a1) = true := beq_iff_eq.mpr c31
           have c31b1 : (((rd_T66 l0_2 x9_1).f0) != a1) = false := bne_eq_false_iff_eq.mpr c31
           clear c31
           have H' := aM H
           clear H; have hnb32 := NB152_149.out; have hnc32 := NB149_152.out; have hnb33 := NB152_150.out; have hnc33 := NB150_152.out; have hnb34 := NB152_151.out; have hnc34 := NB151_152.out
           obtain ⟨hcz35_0, hcz35_1, hcz35_2, hfz35_0, hfz35_1, hfz35_2⟩ := nK3 BK152.out
           have hnb36 := NB150_149.out; have hnc36 := NB149_150.out; have hnb37 := NB150_151.out; have hnc37 := NB151_150.out
           obtain ⟨hcz38_0, hcz38_1, hcz38_2, hcz38_3, hfz38_0, hfz38_1, hfz38_2, hfz38_3⟩ := nK4 BK150.out
           go_wp2_with (first | ((with_reducible refine gate_builtin (b := .append) (xs := #[.tmp 39, .tmp 41]) rfl ?_); at_builtin; refine Kd.R_append k66 (w0 := w) w.heap.size rfl (.tmp 39) (.tmp 41) 27 66 (.agg #[(.int .i64 0), (.int .i64 0), (.int .i64 0), (.int .i64 0)]) 32 rfl Try.underlying27 info66 rfl (by decide) (by omega) u153002 x153002_1 (⟨a2_0, a2_1, a2_2, a2_3⟩ : S66) [.int .i64 a2_0, .int .i64 a2_1, .int .i64 a2_2, .int .i64 a2_3] (fun k_ => k_ ≠ gb150) (fun _ => False) rfl rfl ?aP (fun _ hk => hk.elim) ?aF ?aO ?aB ?aS ?aL ?_; (case aP => exact k66_mkM _ _ _ (⟨a2_0, a2_1, a2_2, a2_3⟩ : S66)); (case aB => exact (by repeat (first | (with_reducible first | exact HB.out | apply below_alloc | apply pw_below_drewN | apply below_drew1 | refine below_set ?_ GE149.out | refine below_set ?_ GE150.out | refine below_set ?_ GE151.out | refine below_set ?_ GE152.out) | exact HB.out))); (case aF => exact (fun k_ hk => Kd.freshB (g := gb150) (o := .cells #[.int .i64 a2_0, .int .i64 a2_1, .int .i64 a2_2, .int .i64 a2_3] 66 (0, 0)) (nB BK150.out) k_ hk)); (case aO => exact (nR HO_153002.out)); (case aS => exact (below_size (by repeat (first | (with_reducible first | exact HB.out | apply below_alloc | apply pw_below_drewN | apply below_drew1 | refine below_set ?_ GE149.out | refine below_set ?_ GE150.out | refine below_set ?_ GE151.out | refine below_set ?_ GE152.out) | exact HB.out)))); (case aL => have := LMc28.out; omega); intro v158 w39 ho hb hg hat; rw [← Ny157.out] at ho; have n_ := aA (blk_grown (g := gb149) (o := .cells #[.int .i64 a0_0, .int .i64 a0_1, .slice A0_2 l0_2.length c0_2] 29 (0, 0)) (nB BK149.out) hg (Kd.R_ne HO_153002.out BK149.out (by decide))) <| aA (blk_grown (g := gb150) (o := .cells #[.int .i64 a2_0, .int .i64 a2_1, .int .i64 a2_2, .int .i64 a2_3] 66 (0, 0)) (nB BK150.out) hg (Kd.R_away HO_153002.out (fun _ hk => hk))) <| aA (blk_grown (g := gb151) (o := .cells #[.int .i64 0, .int .i64 0, .slice none 0 0] 29 (0, 0)) (nB BK151.out) hg (Kd.R_ne HO_153002.out BK151.out (by decide))) <| aA (blk_grown (g := gb152) (o := .cells #[.int .i64 a0_0, .int .i64 a0_1, u153002] 29 (0, 0)) (nB BK152.out) hg (Kd.R_ne HO_153002.out BK152.out (by decide))) <| aA (hb) <| aM (ho); clear BK149 BK150 BK151 BK152 HB HO_153002; obtain ⟨BK149, BK150, BK151, BK152, HB, HO159⟩ := n_; clear ho hb hg hat; obtain ⟨Ao40, co40, eo40⟩ := Kd.R_slice HO159.out; subst eo40; obtain ⟨hcz41_0, hcz41_1, hcz41_2, hfz41_0, hfz41_1, hfz41_2⟩ := nK3 BK152.out; have hnb42 := NB149_151.out; have hnc42 := NB151_149.out; obtain ⟨hcz43_0, hcz43_1, hcz43_2, hfz43_0, hfz43_1, hfz43_2⟩ := nK3 BK149.out; have p160 : 0 ≤ (x9_1 : Int) := of_decide_eq_true nQ; have q160 : x9_1 < (l0_2.length : Int) := of_decide_eq_true nQ; obtain ⟨ad160, e160, hx160_0, hx160_1, hx160_2, hx160_3⟩ := at_T66 HR0_2.out x9_1 p160 q160; cases e160; have hn160_0 : ad160.block ≠ gb152 := Nat.ne_of_lt (Nat.lt_of_lt_of_le (by have := World.block_lt_of_cell? _ _ hx160_0; first | rwa [add_block] at this | exact this) GW152.out); replace hx160_0 := (HB.out.cell (World.block_lt_of_cell? w _ hx160_0)).trans hx160_0; replace hx160_1 := (HB.out.cell (World.block_lt_of_cell? w _ hx160_1)).trans hx160_1; replace hx160_2 := (HB.out.cell (World.block_lt_of_cell? w _ hx160_2)).trans hx160_2; replace hx160_3 := (HB.out.cell (World.block_lt_of_cell? w _ hx160_3)).trans hx160_3; replace hx160_0 := (cell_far (p := ⟨gb152, 2, none⟩) (by first | (rw [add_block]; exact hn160_0) | (show (Addr.add _ _).block ≠ _; rw [add_block]; exact hn160_0) | exact hn160_0) (.slice Ao40 y157.length co40)).trans hx160_0; replace hx160_1 := (cell_far (p := ⟨gb152, 2, none⟩) (by first | (rw [add_block]; exact hn160_0) | (show (Addr.add _ _).block ≠ _; rw [add_block]; exact hn160_0) | exact hn160_0) (.slice Ao40 y157.length co40)).trans hx160_1; replace hx160_2 := (cell_far (p := ⟨gb152, 2, none⟩) (by first | (rw [add_block]; exact hn160_0) | (show (Addr.add _ _).block ≠ _; rw [add_block]; exact hn160_0) | exact hn160_0) (.slice Ao40 y157.length co40)).trans hx160_2; replace hx160_3 := (cell_far (p := ⟨gb152, 2, none⟩) (by first | (rw [add_block]; exact hn160_0) | (show (Addr.add _ _).block ≠ _; rw [add_block]; exact hn160_0) | exact hn160_0) (.slice Ao40 y157.length co40)).trans hx160_3; clear hn160_0; replace p160 := eq_true p160; replace q160 := eq_true q160))
           go_roundg kj17
           case measure => have := HK1.out; have := HJ17.out; omega
           case rel => exact ⟨(true), (wrap64 (x9_1 + 1)), (y157), (.slice Ao40 y157.length co40), nS, nS, H', ⟨by have := HK1.out; have := HJ17.out; omega⟩, ⟨by (with_reducible repeat (first | apply Kd.R_alloc | apply Kd.R_drewN | apply Kd.R_drew)); exact Kd.R_mono (Kd.R_far (p := ⟨gb152, 2, none⟩) (Kd.R_types HO159.out BK152.out (by decide)) (fun _ hk => hk.2) (.slice Ao40 y157.length co40)) (fun _ hk => hk.1)⟩, ⟨by refine nE ?_; refine blk_far ?_ NB149_152.out _; refine nE ?_; exact BK149.out⟩, ⟨by refine nE ?_; refine blk_far ?_ NB150_152.out _; refine nE ?_; exact BK150.out⟩, ⟨by refine nE ?_; refine blk_far ?_ NB151_152.out _; refine nE ?_; exact BK151.out⟩, ⟨by refine nE ?_; refine blk_put (cs := #[.int .i64 a0_0, .int .i64 a0_1, u153002]) ?_ 2 _ rfl; refine nE ?_; exact BK152.out⟩, ⟨by repeat (first | (with_reducible first | exact HB.out | apply below_alloc | apply pw_below_drewN | apply below_drew1 | refine below_set ?_ GE149.out | refine below_set ?_ GE150.out | refine below_set ?_ GE151.out | refine below_set ?_ GE152.out) | exact HB.out)⟩⟩
         · rw [if_neg c31] at H
           have c31b0 : (((rd_T66 l0_2 x9_1).f0) == a1) = false := beq_eq_false_iff_ne.mpr c31
           have c31b1 : (((rd_T66 l0_2 x9_1).f0) != a1) = true := bne_iff_ne.mpr c31
           by_cases c44 : y157.length < 4398046511104
           rotate_left
           · (rw [if_neg c44] at H; exact absurd H (by simp))
           rw [if_pos c44] at H
           have LMc44 := aM c44
           clear c44
           obtain ⟨y162, hy162⟩ : ∃ y_ : List (S66), y_ = (y157 ++ [(⟨(rd_T66 l0_2 x9_1).f0, (rd_T66 l0_2 x9_1).f1, (rd_T66 l0_2 x9_1).f2, (rd_T66 l0_2 x9_1).f3⟩ : S66)]) := ⟨_, rfl⟩
           replace H : (spec_l14Held.l0 kj17 a1 true (wrap64 (x9_1 + 1)) a0_0 a0_1 l0_2 a2_0 a2_1 a2_2 a2_3 a0_0 a0_1 y162) = some (r1, r2, r3) := by first | (rw [hy162]; with_reducible exact H) | (have H2_ := (Option.bind_some _ _).symm.trans H; rw [hy162]; with_reducible exact H2_) | (have H2_ := (Option.bind_some _ _).symm.trans H; with_reducible exact H2_) | with_reducible exact H | (rw [hy162]; exact H) | exact H
           have Ny162 := aM hy162
           clear hy162
           have H' := aM H
           clear H; have hnb45 := NB152_149.out; have hnc45 := NB149_152.out; have hnb46 := NB152_150.out; have hnc46 := NB150_152.out; have hnb47 := NB152_151.out; have hnc47 := NB151_152.out
           obtain ⟨hcz48_0, hcz48_1, hcz48_2, hfz48_0, hfz48_1, hfz48_2⟩ := nK3 BK152.out
           have hnb49 := NB150_149.out; have hnc49 := NB149_150.out; have hnb50 := NB150_151.out; have hnc50 := NB151_150.out
           obtain ⟨hcz51_0, hcz51_1, hcz51_2, hcz51_3, hfz51_0, hfz51_1, hfz51_2, hfz51_3⟩ := nK4 BK150.out
           try go_wp2_with (first | ((with_reducible refine gate_builtin (b := .append) (xs := #[.tmp 39, .tmp 41]) rfl ?_); at_builtin; refine Kd.R_append k66 (w0 := w) w.heap.size rfl (.tmp 39) (.tmp 41) 27 66 (.agg #[(.int .i64 0), (.int .i64 0), (.int .i64 0), (.int .i64 0)]) 32 rfl Try.underlying27 info66 rfl (by decide) (by omega) u153002 x153002_1 (⟨a2_0, a2_1, a2_2, a2_3⟩ : S66) [.int .i64 a2_0, .int .i64 a2_1, .int .i64 a2_2, .int .i64 a2_3] (fun k_ => k_ ≠ gb150) (fun _ => False) rfl rfl ?aP (fun _ hk => hk.elim) ?aF ?aO ?aB ?aS ?aL ?_; (case aP => exact k66_mkM _ _ _ (⟨a2_0, a2_1, a2_2, a2_3⟩ : S66)); (case aB => exact (by repeat (first | (with_reducible first | exact HB.out | apply below_alloc | apply pw_below_drewN | apply below_drew1 | refine below_set ?_ GE149.out | refine below_set ?_ GE150.out | refine below_set ?_ GE151.out | refine below_set ?_ GE152.out) | exact HB.out))); (case aF => exact (fun k_ hk => Kd.freshB (g := gb150) (o := .cells #[.int .i64 a2_0, .int .i64 a2_1, .int .i64 a2_2, .int .i64 a2_3] 66 (0, 0)) (nB BK150.out) k_ hk)); (case aO => exact (nR HO_153002.out)); (case aS => exact (below_size (by repeat (first | (with_reducible first | exact HB.out | apply below_alloc | apply pw_below_drewN | apply below_drew1 | refine below_set ?_ GE149.out | refine below_set ?_ GE150.out | refine below_set ?_ GE151.out | refine below_set ?_ GE152.out) | exact HB.out)))); (case aL => have := LMc28.out; omega); intro v158 w52 ho hb hg hat; rw [← Ny157.out] at ho; have n_ := aA (blk_grown (g := gb149) (o := .cells #[.int .i64 a0_0, .int .i64 a0_1, .slice A0_2 l0_2.length c0_2] 29 (0, 0)) (nB BK149.out) hg (Kd.R_ne HO_153002.out BK149.out (by decide))) <| aA (blk_grown (g := gb150) (o := .cells #[.int .i64 a2_0, .int .i64 a2_1, .int .i64 a2_2, .int .i64 a2_3] 66 (0, 0)) (nB BK150.out) hg (Kd.R_away HO_153002.out (fun _ hk => hk))) <| aA (blk_grown (g := gb151) (o := .cells #[.int .i64 0, .int .i64 0, .slice none 0 0] 29 (0, 0)) (nB BK151.out) hg (Kd.R_ne HO_153002.out BK151.out (by decide))) <| aA (blk_grown (g := gb152) (o := .cells #[.int .i64 a0_0, .int .i64 a0_1, u153002] 29 (0, 0)) (nB BK152.out) hg (Kd.R_ne HO_153002.out BK152.out (by decide))) <| aA (hb) <| aM (ho); clear BK149 BK150 BK151 BK152 HB HO_153002; obtain ⟨BK149, BK150, BK151, BK152, HB, HO159⟩ := n_; clear ho hb hg hat; obtain ⟨Ao53, co53, eo53⟩ := Kd.R_slice HO159.out; subst eo53; obtain ⟨hcz54_0, hcz54_1, hcz54_2, hfz54_0, hfz54_1, hfz54_2⟩ := nK3 BK152.out; have hnb55 := NB149_151.out; have hnc55 := NB151_149.out; obtain ⟨hcz56_0, hcz56_1, hcz56_2, hfz56_0, hfz56_1, hfz56_2⟩ := nK3 BK149.out; have p160 : 0 ≤ (x9_1 : Int) := of_decide_eq_true nQ; have q160 : x9_1 < (l0_2.length : Int) := of_decide_eq_true nQ; obtain ⟨ad160, e160, hx160_0, hx160_1, hx160_2, hx160_3⟩ := at_T66 HR0_2.out x9_1 p160 q160; cases e160; have hn160_0 : ad160.block ≠ gb152 := Nat.ne_of_lt (Nat.lt_of_lt_of_le (by have := World.block_lt_of_cell? _ _ hx160_0; first | rwa [add_block] at this | exact this) GW152.out); replace hx160_0 := (HB.out.cell (World.block_lt_of_cell? w _ hx160_0)).trans hx160_0; replace hx160_1 := (HB.out.cell (World.block_lt_of_cell? w _ hx160_1)).trans hx160_1; replace hx160_2 := (HB.out.cell (World.block_lt_of_cell? w _ hx160_2)).trans hx160_2; replace hx160_3 := (HB.out.cell (World.block_lt_of_cell? w _ hx160_3)).trans hx160_3; replace hx160_0 := (cell_far (p := ⟨gb152, 2, none⟩) (by first | (rw [add_block]; exact hn160_0) | (show (Addr.add _ _).block ≠ _; rw [add_block]; exact hn160_0) | exact hn160_0) (.slice Ao53 y157.length co53)).trans hx160_0; replace hx160_1 := (cell_far (p := ⟨gb152, 2, none⟩) (by first | (rw [add_block]; exact hn160_0) | (show (Addr.add _ _).block ≠ _; rw [add_block]; exact hn160_0) | exact hn160_0) (.slice Ao53 y157.length co53)).trans hx160_1; replace hx160_2 := (cell_far (p := ⟨gb152, 2, none⟩) (by first | (rw [add_block]; exact hn160_0) | (show (Addr.add _ _).block ≠ _; rw [add_block]; exact hn160_0) | exact hn160_0) (.slice Ao53 y157.length co53)).trans hx160_2; replace hx160_3 := (cell_far (p := ⟨gb152, 2, none⟩) (by first | (rw [add_block]; exact hn160_0) | (show (Addr.add _ _).block ≠ _; rw [add_block]; exact hn160_0) | exact hn160_0) (.slice Ao53 y157.length co53)).trans hx160_3; clear hn160_0; replace p160 := eq_true p160; replace q160 := eq_true q160))
           have n0_ : Aside0 (Kd.R k66 66 (w52.setCell ⟨gb152, 2, none⟩ (.slice Ao53 y157.length co53)) w.heap.size (fun k_ => k_ ≠ gb150) (.slice Ao53 y157.length co53) y157) := ⟨by (with_reducible repeat (first | apply Kd.R_alloc | apply Kd.R_drewN | apply Kd.R_drew)); exact Kd.R_mono (Kd.R_far (p := ⟨gb152, 2, none⟩) (Kd.R_types HO159.out BK152.out (by decide)) (fun _ hk => hk.2) (.slice Ao53 y157.length co53)) (fun _ hk => hk.1)⟩
           have n1_ : Aside0 ((w52.setCell ⟨gb152, 2, none⟩ (.slice Ao53 y157.length co53)).heap[gb149]? = some (.cells #[.int .i64 a0_0, .int .i64 a0_1, .slice (some ad160) l0_2.length c0_2] 29 (0, 0))) := ⟨by refine nE ?_; refine blk_far ?_ NB149_152.out _; refine nE ?_; exact BK149.out⟩
           have n2_ : Aside0 ((w52.setCell ⟨gb152, 2, none⟩ (.slice Ao53 y157.length co53)).heap[gb150]? = some (.cells #[.int .i64 a2_0, .int .i64 a2_1, .int .i64 a2_2, .int .i64 a2_3] 66 (0, 0))) := ⟨by refine nE ?_; refine blk_far ?_ NB150_152.out _; refine nE ?_; exact BK150.out⟩
           have n3_ : Aside0 ((w52.setCell ⟨gb152, 2, none⟩ (.slice Ao53 y157.length co53)).heap[gb151]? = some (.cells #[.int .i64 0, .int .i64 0, .slice none 0 0] 29 (0, 0))) := ⟨by refine nE ?_; refine blk_far ?_ NB151_152.out _; refine nE ?_; exact BK151.out⟩
           have n4_ : Aside0 ((w52.setCell ⟨gb152, 2, none⟩ (.slice Ao53 y157.length co53)).heap[gb152]? = some (.cells #[.int .i64 a0_0, .int .i64 a0_1, .slice Ao53 y157.length co53] 29 (0, 0))) := ⟨by refine nE ?_; refine blk_put (cs := #[.int .i64 a0_0, .int .i64 a0_1, u153002]) ?_ 2 _ rfl; refine nE ?_; exact BK152.out⟩
           have n5_ : Aside0 (Below w.heap.size w (w52.setCell ⟨gb152, 2, none⟩ (.slice Ao53 y157.length co53))) := ⟨by repeat (first | (with_reducible first | exact HB.out | apply below_alloc | apply pw_below_drewN | apply below_drew1 | refine below_set ?_ GE149.out | refine below_set ?_ GE150.out | refine below_set ?_ GE151.out | refine below_set ?_ GE152.out) | exact HB.out)⟩
           (try clear HO159); (try clear BK149); (try clear BK150); (try clear BK151); (try clear BK152); (try clear HB)
           generalize (w52.setCell ⟨gb152, 2, none⟩ (.slice Ao53 y157.length co53)) = w57 at n0_ n1_ n2_ n3_ n4_ n5_ ⊢
           have HO159 := n0_; have BK149 := n1_; have BK150 := n2_; have BK151 := n3_; have BK152 := n4_; have HB := n5_; clear n0_ n1_ n2_ n3_ n4_ n5_
           have n_ := aA (Kd.R_drew HO159.out) <| aA (blk_drew BK149.out) <| aA (blk_drew BK150.out) <| aA (blk_drew BK151.out) <| aA (blk_drew BK152.out) <| aM (below_drew1 HB.out); clear HO159 BK149 BK150 BK151 BK152 HB; obtain ⟨HO159, BK149, BK150, BK151, BK152, HB⟩ := n_
           have p161 : 0 ≤ (x9_1 : Int) := of_decide_eq_true nQ
           have q161 : x9_1 < (l0_2.length : Int) := of_decide_eq_true nQ
           obtain ⟨ad161, e161, hx161_0, hx161_1, hx161_2, hx161_3⟩ := at_T66 HR0_2.out x9_1 p161 q161
           have hw161_3 := hx161_3; have hw161_2 := hx161_2; have hw161_1 := hx161_1; have hw161_0 := hx161_0
           obtain rfl : ad160 = ad161 := (by injection e161)
           replace hx161_0 := (HB.out.cell (World.block_lt_of_cell? w _ hx161_0)).trans hx161_0
           replace hx161_1 := (HB.out.cell (World.block_lt_of_cell? w _ hx161_1)).trans hx161_1
           replace hx161_2 := (HB.out.cell (World.block_lt_of_cell? w _ hx161_2)).trans hx161_2
           replace hx161_3 := (HB.out.cell (World.block_lt_of_cell? w _ hx161_3)).trans hx161_3
           replace p161 := eq_true p161; replace q161 := eq_true q161
           refine start_ (n := 11) (S := fun w' => w'.cell? ⟨gb152, 0, none⟩ = some (.int .i64 a0_0) ∧ w'.cell? ⟨gb152, 1, none⟩ = some (.int .i64 a0_1) ∧ w'.cell? ⟨gb152, 2, none⟩ = some (.slice Ao53 y157.length co53) ∧ w'.cell? ⟨gb149, 0, none⟩ = some (.int .i64 a0_0) ∧ w'.cell? ⟨gb149, 1, none⟩ = some (.int .i64 a0_1) ∧ w'.cell? ⟨gb149, 2, none⟩ = some (.slice (some ad160) l0_2.length c0_2) ∧ w'.cell? (ad160.add ((x9_1).toNat * 4)) = some (.int .i64 ((rd_T66 l0_2 x9_1).f0)) ∧ w'.cell? ⟨(ad160.add ((x9_1).toNat * 4)).block, (ad160.add ((x9_1).toNat * 4)).off + 1, none⟩ = some (.int .i64 ((rd_T66 l0_2 x9_1).f1)) ∧ w'.cell? ⟨(ad160.add ((x9_1).toNat * 4)).block, (ad160.add ((x9_1).toNat * 4)).off + 2, none⟩ = some (.int .i64 ((rd_T66 l0_2 x9_1).f2)) ∧ w'.cell? ⟨(ad160.add ((x9_1).toNat * 4)).block, (ad160.add ((x9_1).toNat * 4)).off + 3, none⟩ = some (.int .i64 ((rd_T66 l0_2 x9_1).f3))) (ds := [10]) #[F,F,F,F,F,F,F,F,F,F,F] (by kernel_rfl) rfl rfl ⟨(blk_cell BK152.out 0).trans rfl, (blk_cell BK152.out 1).trans rfl, (blk_cell BK152.out 2).trans rfl, (blk_cell BK149.out 0).trans rfl, (blk_cell BK149.out 1).trans rfl, (blk_cell BK149.out 2).trans rfl, (nC HB.out hw161_0 :), (nC HB.out hw161_1 :), (nC HB.out hw161_2 :), (nC HB.out hw161_3 :)⟩ (fun hHeld => ?_); refine with_tabW spec_l14Held.tab10 spec_l14Held.bits10 (fun HT_ HW_ => ?_)
           generalize w57.drew = w58 at HO159 BK149 BK150 BK151 BK152 HB hx161_0 hx161_1 hx161_2 hx161_3 hHeld ⊢
           refine pU 0 (some 52) #[T,F,F,F,F,F,F,F,F,F,F] rfl rfl HT_.out ?_
           refine pU 2 (some 54) #[T,F,T,F,F,F,F,F,F,F,F] rfl rfl HT_.out ?_
           refine pU 4 (some 56) #[T,F,T,F,T,F,F,F,F,F,F] rfl rfl HT_.out ?_
           refine tU10 1 (some 53) #[T,T,T,F,T,F,F,F,F,F,F] rfl rfl HT_.out HW_.out hHeld ?_
           refine tU10 3 (some 55) #[T,T,T,T,T,F,F,F,F,F,F] rfl rfl HT_.out HW_.out hHeld ?_
           refine pU 5 (some 57) #[T,T,T,T,T,T,F,F,F,F,F] rfl rfl HT_.out ?_
           refine tU10 6 (some 58) #[T,T,T,T,T,T,T,F,F,F,F] rfl rfl HT_.out HW_.out hHeld ?_
           refine one_ (i := 7) (N := some 59) #[T,T,T,T,T,T,T,T,F,F,F] rfl rfl (one_of HT_.out (by kernel_rfl)) (by decide) (fun K hK => ?_)
           refine value_ (w1 := ?_) (v := ?_) (by rfl) rfl ?_ ?_
           rotate_left 2
           · go_simp
             constructor
             · rfl
             · rfl
           refine hK.out _ _ ⟨(blk_cell (blk_alloc BK152.out _) 0).trans rfl, (blk_cell (blk_alloc BK152.out _) 1).trans rfl, (blk_cell (blk_alloc BK152.out _) 2).trans rfl, (blk_cell (blk_alloc BK149.out _) 0).trans rfl, (blk_cell (blk_alloc BK149.out _) 1).trans rfl, (blk_cell (blk_alloc BK149.out _) 2).trans rfl, (World.cell?_alloc_lt _ _ _ (World.block_lt_of_cell? _ _ ((nC HB.out hw161_0 :)))).trans ((nC HB.out hw161_0 :)), (World.cell?_alloc_lt _ _ _ (World.block_lt_of_cell? _ _ ((nC HB.out hw161_1 :)))).trans ((nC HB.out hw161_1 :)), (World.cell?_alloc_lt _ _ _ (World.block_lt_of_cell? _ _ ((nC HB.out hw161_2 :)))).trans ((nC HB.out hw161_2 :)), (World.cell?_alloc_lt _ _ _ (World.block_lt_of_cell? _ _ ((nC HB.out hw161_3 :)))).trans ((nC HB.out hw161_3 :))⟩ (fun hHeld => ?_)
           clear hK K
           refine norm_ (a' := ?_) ?_ ?_
           rotate_left
           · show Act.put _ (some 59) _ = _
             simp only [Act.put, List.setIfInBounds_toArray, List.set_cons_zero, List.set_cons_succ, i64_w, i32_w]
             rfl
           refine one_ (i := 8) (N := some 60) #[T,T,T,T,T,T,T,T,T,F,F] rfl rfl (one_of HT_.out (by kernel_rfl)) (by decide) (fun K hK => ?_)
           refine Kd.R_append_step k66 (w0 := w) w.heap.size (by rfl) (.tmp 53) (.tmp 59) 27 66 (.agg #[(.int .i64 0), (.int .i64 0), (.int .i64 0), (.int .i64 0)]) 32 rfl Try.underlying27 info66 rfl (by decide) (by omega) (.slice Ao53 y157.length co53) y157 (⟨(rd_T66 l0_2 x9_1).f0, (rd_T66 l0_2 x9_1).f1, (rd_T66 l0_2 x9_1).f2, (rd_T66 l0_2 x9_1).f3⟩ : S66) [.int .i64 ((rd_T66 l0_2 x9_1).f0), .int .i64 ((rd_T66 l0_2 x9_1).f1), .int .i64 ((rd_T66 l0_2 x9_1).f2), .int .i64 ((rd_T66 l0_2 x9_1).f3)] (fun k_ => k_ ≠ gb150) (fun _ => False) rfl rfl ?aP (fun _ hk => hk.elim) ?aF ?aO ?aB ?aS ?aL ?_
           (case aP => exact k66_mkM _ _ _ (⟨(rd_T66 l0_2 x9_1).f0, (rd_T66 l0_2 x9_1).f1, (rd_T66 l0_2 x9_1).f2, (rd_T66 l0_2 x9_1).f3⟩ : S66))
           (case aB => exact (by repeat (first | (with_reducible first | exact HB.out | apply below_alloc | apply pw_below_drewN | apply below_drew1 | refine below_set ?_ GE149.out | refine below_set ?_ GE150.out | refine below_set ?_ GE151.out | refine below_set ?_ GE152.out) | exact HB.out)))
           (case aF => exact (fun k_ hk => Kd.freshB (g := gb150) (o := .cells #[.int .i64 a2_0, .int .i64 a2_1, .int .i64 a2_2, .int .i64 a2_3] 66 (0, 0)) (nB BK150.out) k_ hk))
           (case aO => exact (nR HO159.out))
           (case aS => exact (below_size (by repeat (first | (with_reducible first | exact HB.out | apply below_alloc | apply pw_below_drewN | apply below_drew1 | refine below_set ?_ GE149.out | refine below_set ?_ GE150.out | refine below_set ?_ GE151.out | refine below_set ?_ GE152.out) | exact HB.out))))
           (case aL => have := LMc44.out; omega)
           intro v163 w59 ho hb hg hat
           rw [← Ny162.out] at ho
           have n_ := aA (blk_grown (g := gb149) (o := .cells #[.int .i64 a0_0, .int .i64 a0_1, .slice (some ad160) l0_2.length c0_2] 29 (0, 0)) (nB BK149.out) hg (Kd.R_ne HO159.out BK149.out (by decide))) <| aA (blk_grown (g := gb150) (o := .cells #[.int .i64 a2_0, .int .i64 a2_1, .int .i64 a2_2, .int .i64 a2_3] 66 (0, 0)) (nB BK150.out) hg (Kd.R_away HO159.out (fun _ hk => hk))) <| aA (blk_grown (g := gb151) (o := .cells #[.int .i64 0, .int .i64 0, .slice none 0 0] 29 (0, 0)) (nB BK151.out) hg (Kd.R_ne HO159.out BK151.out (by decide))) <| aA (blk_grown (g := gb152) (o := .cells #[.int .i64 a0_0, .int .i64 a0_1, .slice Ao53 y157.length co53] 29 (0, 0)) (nB BK152.out) hg (Kd.R_ne HO159.out BK152.out (by decide))) <| aA (hb) <| aM (ho); clear BK149 BK150 BK151 BK152 HB HO159; obtain ⟨BK149, BK150, BK151, BK152, HB, HO164⟩ := n_; clear ho hb hg hat
           obtain ⟨Ao60, co60, eo60⟩ := Kd.R_slice HO164.out
           (first | subst eo60 | (injection eo60 with f1_ f2_ f3_; have f4_ := f1_.symm; have f5_ := f3_.symm; clear f1_ f2_ f3_; subst f4_; subst f5_))
           refine hK.out _ _ ⟨(blk_cell BK152.out 0).trans rfl, (blk_cell BK152.out 1).trans rfl, (blk_cell BK152.out 2).trans rfl, (blk_cell BK149.out 0).trans rfl, (blk_cell BK149.out 1).trans rfl, (blk_cell BK149.out 2).trans rfl, (nC HB.out hw161_0 :), (nC HB.out hw161_1 :), (nC HB.out hw161_2 :), (nC HB.out hw161_3 :)⟩ (fun hHeld => ?_)
           clear hK K
           refine norm_ (a' := ?_) ?_ ?_
           rotate_left
           · show Act.put _ (some 60) _ = _
             simp only [Act.put, List.setIfInBounds_toArray, List.set_cons_zero, List.set_cons_succ, i64_w, i32_w]
             rfl
           refine pU 9 (some 61) #[T,T,T,T,T,T,T,T,T,T,F] rfl rfl HT_.out ?_
           refine last_ (i := 10) (N := none) #[T,T,T,T,T,T,T,T,T,T,T] rfl rfl (one_of HT_.out (by kernel_rfl)) (by decide) (fun K hK => ?_)
           have hs61 : w59.cell? ⟨gb152, 2, none⟩ = some (.slice Ao53 y157.length co53) := (blk_cell BK152.out 2).trans rfl
           have hfs61 := blk_frozen BK152.out 2
           have hns61_0 := NB149_152.out; have hns61_1 := NB150_152.out; have hns61_2 := NB151_152.out; have hms61_0 := NB152_149.out; have hms61_1 := NB152_150.out; have hms61_2 := NB152_151.out
           refine skip_ (w1 := ?_) (by rfl) rfl ?_ ?_
           rotate_left
           · go_simp; rfl
           refine hK.out _ _ ?_
           clear hK K
           refine done_ (done_of HT_.out (by kernel_rfl)) ?_
           try go_wp2
           go_roundg kj17
           case measure => have := HK1.out; have := HJ17.out; omega
           case rel => exact ⟨(true), (wrap64 (x9_1 + 1)), (y162), (.slice Ao60 y162.length co60), nS, nS, H', ⟨by have := HK1.out; have := HJ17.out; omega⟩, ⟨by (with_reducible repeat (first | apply Kd.R_alloc | apply Kd.R_drewN | apply Kd.R_drew)); exact Kd.R_mono (Kd.R_far (p := ⟨gb152, 2, none⟩) (Kd.R_types HO164.out BK152.out (by decide)) (fun _ hk => hk.2) (.slice Ao60 y162.length co60)) (fun _ hk => hk.1)⟩, ⟨by refine nE ?_; refine blk_far ?_ NB149_152.out _; refine nE ?_; exact BK149.out⟩, ⟨by refine nE ?_; refine blk_far ?_ NB150_152.out _; refine nE ?_; exact BK150.out⟩, ⟨by refine nE ?_; refine blk_far ?_ NB151_152.out _; refine nE ?_; exact BK151.out⟩, ⟨by refine nE ?_; refine blk_put (cs := #[.int .i64 a0_0, .int .i64 a0_1, .slice Ao53 y157.length co53]) ?_ 2 _ rfl; refine nE ?_; exact BK152.out⟩, ⟨by repeat (first | (with_reducible first | exact HB.out | apply below_alloc | apply pw_below_drewN | apply below_drew1 | refine below_set ?_ GE149.out | refine below_set ?_ GE150.out | refine below_set ?_ GE151.out | refine below_set ?_ GE152.out) | exact HB.out)⟩⟩
       · replace c27 := Bool.eq_false_iff.mpr c27
         subst c27
         rw [if_neg nN] at H
         by_cases c62 : 0 ≤ x9_1
         rotate_left
         · (rw [if_neg c62] at H; exact absurd H (by simp))
         rw [if_pos c62] at H
         have c62b0 : decide (0 ≤ x9_1) = true := decide_eq_true c62
         clear c62
         by_cases c63 : x9_1 < (l0_2.length : Int)
         rotate_left
         · (rw [if_neg c63] at H; exact absurd H (by simp))
         rw [if_pos c63] at H
         have c63b0 : decide (x9_1 < (l0_2.length : Int)) = true := decide_eq_true c63
         clear c63
         by_cases c64 : ((rd_T66 l0_2 x9_1).f0) = a1
         · rw [if_pos c64] at H
           have c64b0 : (((rd_T66 l0_2 x9_1).f0) == a1) = true := beq_iff_eq.mpr c64
           have c64b1 : (((rd_T66 l0_2 x9_1).f0) != a1) = false := bne_eq_false_iff_eq.mpr c64
           clear c64
           have H' := aM H
           clear H; have hnb65 := NB149_150.out; have hnc65 := NB150_149.out; have hnb66 := NB149_151.out; have hnc66 := NB151_149.out; have hnb67 := NB149_152.out; have hnc67 := NB152_149.out
           obtain ⟨hcz68_0, hcz68_1, hcz68_2, hfz68_0, hfz68_1, hfz68_2⟩ := nK3 BK149.out
           have p165 : 0 ≤ (x9_1 : Int) := of_decide_eq_true nQ
           have q165 : x9_1 < (l0_2.length : Int) := of_decide_eq_true nQ
           obtain ⟨ad165, e165, hx165_0, hx165_1, hx165_2, hx165_3⟩ := at_T66 HR0_2.out x9_1 p165 q165
           cases e165
           replace hx165_0 := (HB.out.cell (World.block_lt_of_cell? w _ hx165_0)).trans hx165_0
           replace hx165_1 := (HB.out.cell (World.block_lt_of_cell? w _ hx165_1)).trans hx165_1
           replace hx165_2 := (HB.out.cell (World.block_lt_of_cell? w _ hx165_2)).trans hx165_2
           replace hx165_3 := (HB.out.cell (World.block_lt_of_cell? w _ hx165_3)).trans hx165_3
           replace p165 := eq_true p165; replace q165 := eq_true q165; go_wp2
           go_roundg kj17
           case measure => have := HK1.out; have := HJ17.out; omega
           case rel => exact ⟨(x8_1), (wrap64 (x9_1 + 1)), (x153002_1), (u153002), nS, nS, H', ⟨by have := HK1.out; have := HJ17.out; omega⟩, ⟨by (with_reducible repeat (first | apply Kd.R_alloc | apply Kd.R_drewN | apply Kd.R_drew)); exact HO_153002.out⟩, ⟨by refine nE ?_; exact BK149.out⟩, ⟨by refine nE ?_; exact BK150.out⟩, ⟨by refine nE ?_; exact BK151.out⟩, ⟨by refine nE ?_; exact BK152.out⟩, ⟨by repeat (first | (with_reducible first | exact HB.out | apply below_alloc | apply pw_below_drewN | apply below_drew1 | refine below_set ?_ GE149.out | refine below_set ?_ GE150.out | refine below_set ?_ GE151.out | refine below_set ?_ GE152.out) | exact HB.out)⟩⟩
         · rw [if_neg c64] at H
           have c64b0 : (((rd_T66 l0_2 x9_1).f0) == a1) = false := beq_eq_false_iff_ne.mpr c64
           have c64b1 : (((rd_T66 l0_2 x9_1).f0) != a1) = true := bne_iff_ne.mpr c64
           by_cases c69 : x153002_1.length < 4398046511104
           rotate_left
           · (rw [if_neg c69] at H; exact absurd H (by simp))
           rw [if_pos c69] at H
           have LMc69 := aM c69
           clear c69
           obtain ⟨y167, hy167⟩ : ∃ y_ : List (S66), y_ = (x153002_1 ++ [(⟨(rd_T66 l0_2 x9_1).f0, (rd_T66 l0_2 x9_1).f1, (rd_T66 l0_2 x9_1).f2, (rd_T66 l0_2 x9_1).f3⟩ : S66)]) := ⟨_, rfl⟩
           replace H : (spec_l14Held.l0 kj17 a1 x8_1 (wrap64 (x9_1 + 1)) a0_0 a0_1 l0_2 a2_0 a2_1 a2_2 a2_3 a0_0 a0_1 y167) = some (r1, r2, r3) := by first | (rw [hy167]; with_reducible exact H) | (have H2_ := (Option.bind_some _ _).symm.trans H; rw [hy167]; with_reducible exact H2_) | (have H2_ := (Option.bind_some _ _).symm.trans H; with_reducible exact H2_) | with_reducible exact H | (rw [hy167]; exact H) | exact H
           have Ny167 := aM hy167
           clear hy167
           have H' := aM H
           clear H; have hnb70 := NB149_150.out; have hnc70 := NB150_149.out; have hnb71 := NB149_151.out; have hnc71 := NB151_149.out; have hnb72 := NB149_152.out; have hnc72 := NB152_149.out
           obtain ⟨hcz73_0, hcz73_1, hcz73_2, hfz73_0, hfz73_1, hfz73_2⟩ := nK3 BK149.out
           have p165 : 0 ≤ (x9_1 : Int) := of_decide_eq_true nQ
           have q165 : x9_1 < (l0_2.length : Int) := of_decide_eq_true nQ
           obtain ⟨ad165, e165, hx165_0, hx165_1, hx165_2, hx165_3⟩ := at_T66 HR0_2.out x9_1 p165 q165
           cases e165
           replace hx165_0 := (HB.out.cell (World.block_lt_of_cell? w _ hx165_0)).trans hx165_0
           replace hx165_1 := (HB.out.cell (World.block_lt_of_cell? w _ hx165_1)).trans hx165_1
           replace hx165_2 := (HB.out.cell (World.block_lt_of_cell? w _ hx165_2)).trans hx165_2
           replace hx165_3 := (HB.out.cell (World.block_lt_of_cell? w _ hx165_3)).trans hx165_3
           replace p165 := eq_true p165; replace q165 := eq_true q165
           try go_wp2
           have n_ := aA (Kd.R_drew HO_153002.out) <| aA (blk_drew BK149.out) <| aA (blk_drew BK150.out) <| aA (blk_drew BK151.out) <| aA (blk_drew BK152.out) <| aM (below_drew1 HB.out); clear HO_153002 BK149 BK150 BK151 BK152 HB; obtain ⟨HO_153002, BK149, BK150, BK151, BK152, HB⟩ := n_
           have p166 : 0 ≤ (x9_1 : Int) := of_decide_eq_true nQ
           have q166 : x9_1 < (l0_2.length : Int) := of_decide_eq_true nQ
           obtain ⟨ad166, e166, hx166_0, hx166_1, hx166_2, hx166_3⟩ := at_T66 HR0_2.out x9_1 p166 q166
           have hw166_3 := hx166_3; have hw166_2 := hx166_2; have hw166_1 := hx166_1; have hw166_0 := hx166_0
           obtain rfl : ad165 = ad166 := (by injection e166)
           replace hx166_0 := (HB.out.cell (World.block_lt_of_cell? w _ hx166_0)).trans hx166_0
           replace hx166_1 := (HB.out.cell (World.block_lt_of_cell? w _ hx166_1)).trans hx166_1
           replace hx166_2 := (HB.out.cell (World.block_lt_of_cell? w _ hx166_2)).trans hx166_2
           replace hx166_3 := (HB.out.cell (World.block_lt_of_cell? w _ hx166_3)).trans hx166_3
           replace p166 := eq_true p166; replace q166 := eq_true q166
           refine start_ (n := 11) (S := fun w' => w'.cell? ⟨gb152, 0, none⟩ = some (.int .i64 a0_0) ∧ w'.cell? ⟨gb152, 1, none⟩ = some (.int .i64 a0_1) ∧ w'.cell? ⟨gb152, 2, none⟩ = some (u153002) ∧ w'.cell? ⟨gb149, 0, none⟩ = some (.int .i64 a0_0) ∧ w'.cell? ⟨gb149, 1, none⟩ = some (.int .i64 a0_1) ∧ w'.cell? ⟨gb149, 2, none⟩ = some (.slice (some ad165) l0_2.length c0_2) ∧ w'.cell? (ad165.add ((x9_1).toNat * 4)) = some (.int .i64 ((rd_T66 l0_2 x9_1).f0)) ∧ w'.cell? ⟨(ad165.add ((x9_1).toNat * 4)).block, (ad165.add ((x9_1).toNat * 4)).off + 1, none⟩ = some (.int .i64 ((rd_T66 l0_2 x9_1).f1)) ∧ w'.cell? ⟨(ad165.add ((x9_1).toNat * 4)).block, (ad165.add ((x9_1).toNat * 4)).off + 2, none⟩ = some (.int .i64 ((rd_T66 l0_2 x9_1).f2)) ∧ w'.cell? ⟨(ad165.add ((x9_1).toNat * 4)).block, (ad165.add ((x9_1).toNat * 4)).off + 3, none⟩ = some (.int .i64 ((rd_T66 l0_2 x9_1).f3))) (ds := [10]) #[F,F,F,F,F,F,F,F,F,F,F] (by kernel_rfl) rfl rfl ⟨(blk_cell BK152.out 0).trans rfl, (blk_cell BK152.out 1).trans rfl, (blk_cell BK152.out 2).trans rfl, (blk_cell BK149.out 0).trans rfl, (blk_cell BK149.out 1).trans rfl, (blk_cell BK149.out 2).trans rfl, (nC HB.out hw166_0 :), (nC HB.out hw166_1 :), (nC HB.out hw166_2 :), (nC HB.out hw166_3 :)⟩ (fun hHeld => ?_); refine with_tabW spec_l14Held.tab10 spec_l14Held.bits10 (fun HT_ HW_ => ?_)
           generalize wc.drew = w74 at HO_153002 BK149 BK150 BK151 BK152 HB hx166_0 hx166_1 hx166_2 hx166_3 hHeld ⊢
           refine pU 0 (some 52) #[T,F,F,F,F,F,F,F,F,F,F] rfl rfl HT_.out ?_
           refine pU 2 (some 54) #[T,F,T,F,F,F,F,F,F,F,F] rfl rfl HT_.out ?_
           refine pU 4 (some 56) #[T,F,T,F,T,F,F,F,F,F,F] rfl rfl HT_.out ?_
           refine tU10 1 (some 53) #[T,T,T,F,T,F,F,F,F,F,F] rfl rfl HT_.out HW_.out hHeld ?_
           refine tU10 3 (some 55) #[T,T,T,T,T,F,F,F,F,F,F] rfl rfl HT_.out HW_.out hHeld ?_
           refine pU 5 (some 57) #[T,T,T,T,T,T,F,F,F,F,F] rfl rfl HT_.out ?_
           refine tU10 6 (some 58) #[T,T,T,T,T,T,T,F,F,F,F] rfl rfl HT_.out HW_.out hHeld ?_
           refine one_ (i := 7) (N := some 59) #[T,T,T,T,T,T,T,T,F,F,F] rfl rfl (one_of HT_.out (by kernel_rfl)) (by decide) (fun K hK => ?_)
           refine value_ (w1 := ?_) (v := ?_) (by rfl) rfl ?_ ?_
           rotate_left 2
           · go_simp
             constructor
             · rfl
             · rfl
           refine hK.out _ _ ⟨(blk_cell (blk_alloc BK152.out _) 0).trans rfl, (blk_cell (blk_alloc BK152.out _) 1).trans rfl, (blk_cell (blk_alloc BK152.out _) 2).trans rfl, (blk_cell (blk_alloc BK149.out _) 0).trans rfl, (blk_cell (blk_alloc BK149.out _) 1).trans rfl, (blk_cell (blk_alloc BK149.out _) 2).trans rfl, (World.cell?_alloc_lt _ _ _ (World.block_lt_of_cell? _ _ ((nC HB.out hw166_0 :)))).trans ((nC HB.out hw166_0 :)), (World.cell?_alloc_lt _ _ _ (World.block_lt_of_cell? _ _ ((nC HB.out hw166_1 :)))).trans ((nC HB.out hw166_1 :)), (World.cell?_alloc_lt _ _ _ (World.block_lt_of_cell? _ _ ((nC HB.out hw166_2 :)))).trans ((nC HB.out hw166_2 :)), (World.cell?_alloc_lt _ _ _ (World.block_lt_of_cell? _ _ ((nC HB.out hw166_3 :)))).trans ((nC HB.out hw166_3 :))⟩ (fun hHeld => ?_)
           clear hK K
           refine norm_ (a' := ?_) ?_ ?_
           rotate_left
           · show Act.put _ (some 59) _ = _
             simp only [Act.put, List.setIfInBounds_toArray, List.set_cons_zero, List.set_cons_succ, i64_w, i32_w]
             rfl
           refine one_ (i := 8) (N := some 60) #[T,T,T,T,T,T,T,T,T,F,F] rfl rfl (one_of HT_.out (by kernel_rfl)) (by decide) (fun K hK => ?_)
           refine Kd.R_append_step k66 (w0 := w) w.heap.size (by rfl) (.tmp 53) (.tmp 59) 27 66 (.agg #[(.int .i64 0), (.int .i64 0), (.int .i64 0), (.int .i64 0)]) 32 rfl Try.underlying27 info66 rfl (by decide) (by omega) u153002 x153002_1 (⟨(rd_T66 l0_2 x9_1).f0, (rd_T66 l0_2 x9_1).f1, (rd_T66 l0_2 x9_1).f2, (rd_T66 l0_2 x9_1).f3⟩ : S66) [.int .i64 ((rd_T66 l0_2 x9_1).f0), .int .i64 ((rd_T66 l0_2 x9_1).f1), .int .i64 ((rd_T66 l0_2 x9_1).f2), .int .i64 ((rd_T66 l0_2 x9_1).f3)] (fun k_ => k_ ≠ gb150) (fun _ => False) rfl rfl ?aP (fun _ hk => hk.elim) ?aF ?aO ?aB ?aS ?aL ?_
           (case aP => exact k66_mkM _ _ _ (⟨(rd_T66 l0_2 x9_1).f0, (rd_T66 l0_2 x9_1).f1, (rd_T66 l0_2 x9_1).f2, (rd_T66 l0_2 x9_1).f3⟩ : S66))
           (case aB => exact (by repeat (first | (with_reducible first | exact HB.out | apply below_alloc | apply pw_below_drewN | apply below_drew1 | refine below_set ?_ GE149.out | refine below_set ?_ GE150.out | refine below_set ?_ GE151.out | refine below_set ?_ GE152.out) | exact HB.out)))
           (case aF => exact (fun k_ hk => Kd.freshB (g := gb150) (o := .cells #[.int .i64 a2_0, .int .i64 a2_1, .int .i64 a2_2, .int .i64 a2_3] 66 (0, 0)) (nB BK150.out) k_ hk))
           (case aO => exact (nR HO_153002.out))
           (case aS => exact (below_size (by repeat (first | (with_reducible first | exact HB.out | apply below_alloc | apply pw_below_drewN | apply below_drew1 | refine below_set ?_ GE149.out | refine below_set ?_ GE150.out | refine below_set ?_ GE151.out | refine below_set ?_ GE152.out) | exact HB.out))))
           (case aL => have := LMc69.out; omega)
           intro v168 w75 ho hb hg hat
           rw [← Ny167.out] at ho
           have n_ := aA (blk_grown (g := gb149) (o := .cells #[.int .i64 a0_0, .int .i64 a0_1, .slice (some ad165) l0_2.length c0_2] 29 (0, 0)) (nB BK149.out) hg (Kd.R_ne HO_153002.out BK149.out (by decide))) <| aA (blk_grown (g := gb150) (o := .cells #[.int .i64 a2_0, .int .i64 a2_1, .int .i64 a2_2, .int .i64 a2_3] 66 (0, 0)) (nB BK150.out) hg (Kd.R_away HO_153002.out (fun _ hk => hk))) <| aA (blk_grown (g := gb151) (o := .cells #[.int .i64 0, .int .i64 0, .slice none 0 0] 29 (0, 0)) (nB BK151.out) hg (Kd.R_ne HO_153002.out BK151.out (by decide))) <| aA (blk_grown (g := gb152) (o := .cells #[.int .i64 a0_0, .int .i64 a0_1, u153002] 29 (0, 0)) (nB BK152.out) hg (Kd.R_ne HO_153002.out BK152.out (by decide))) <| aA (hb) <| aM (ho); clear BK149 BK150 BK151 BK152 HB HO_153002; obtain ⟨BK149, BK150, BK151, BK152, HB, HO169⟩ := n_; clear ho hb hg hat
           obtain ⟨Ao76, co76, eo76⟩ := Kd.R_slice HO169.out
           (first | subst eo76 | (injection eo76 with f1_ f2_ f3_; have f4_ := f1_.symm; have f5_ := f3_.symm; clear f1_ f2_ f3_; subst f4_; subst f5_))
           refine hK.out _ _ ⟨(blk_cell BK152.out 0).trans rfl, (blk_cell BK152.out 1).trans rfl, (blk_cell BK152.out 2).trans rfl, (blk_cell BK149.out 0).trans rfl, (blk_cell BK149.out 1).trans rfl, (blk_cell BK149.out 2).trans rfl, (nC HB.out hw166_0 :), (nC HB.out hw166_1 :), (nC HB.out hw166_2 :), (nC HB.out hw166_3 :)⟩ (fun hHeld => ?_)
           clear hK K
           refine norm_ (a' := ?_) ?_ ?_
           rotate_left
           · show Act.put _ (some 60) _ = _
             simp only [Act.put, List.setIfInBounds_toArray, List.set_cons_zero, List.set_cons_succ, i64_w, i32_w]
             rfl
           refine pU 9 (some 61) #[T,T,T,T,T,T,T,T,T,T,F] rfl rfl HT_.out ?_
           refine last_ (i := 10) (N := none) #[T,T,T,T,T,T,T,T,T,T,T] rfl rfl (one_of HT_.out (by kernel_rfl)) (by decide) (fun K hK => ?_)
           have hs77 : w75.cell? ⟨gb152, 2, none⟩ = some (u153002) := (blk_cell BK152.out 2).trans rfl
           have hfs77 := blk_frozen BK152.out 2
           have hns77_0 := NB149_152.out; have hns77_1 := NB150_152.out; have hns77_2 := NB151_152.out; have hms77_0 := NB152_149.out; have hms77_1 := NB152_150.out; have hms77_2 := NB152_151.out
           refine skip_ (w1 := ?_) (by rfl) rfl ?_ ?_
           rotate_left
           · go_simp; rfl
           refine hK.out _ _ ?_
           clear hK K
           refine done_ (done_of HT_.out (by kernel_rfl)) ?_
           try go_wp2
           go_roundg kj17
           case measure => have := HK1.out; have := HJ17.out; omega
           case rel => exact ⟨(x8_1), (wrap64 (x9_1 + 1)), (y167), (.slice Ao76 y167.length co76), nS, nS, H', ⟨by have := HK1.out; have := HJ17.out; omega⟩, ⟨by (with_reducible repeat (first | apply Kd.R_alloc | apply Kd.R_drewN | apply Kd.R_drew)); exact Kd.R_mono (Kd.R_far (p := ⟨gb152, 2, none⟩) (Kd.R_types HO169.out BK152.out (by decide)) (fun _ hk => hk.2) (.slice Ao76 y167.length co76)) (fun _ hk => hk.1)⟩, ⟨by refine nE ?_; refine blk_far ?_ NB149_152.out _; refine nE ?_; exact BK149.out⟩, ⟨by refine nE ?_; refine blk_far ?_ NB150_152.out _; refine nE ?_; exact BK150.out⟩, ⟨by refine nE ?_; refine blk_far ?_ NB151_152.out _; refine nE ?_; exact BK151.out⟩, ⟨by refine nE ?_; refine blk_put (cs := #[.int .i64 a0_0, .int .i64 a0_1, u153002]) ?_ 2 _ rfl; refine nE ?_; exact BK152.out⟩, ⟨by repeat (first | (with_reducible first | exact HB.out | apply below_alloc | apply pw_below_drewN | apply below_drew1 | refine below_set ?_ GE149.out | refine below_set ?_ GE150.out | refine below_set ?_ GE151.out | refine below_set ?_ GE152.out) | exact HB.out)⟩⟩
   · rw [if_neg c17] at H
     have c17b0 : decide (x9_1 < (l0_2.length : Int)) = false := decide_eq_false c17
     clear c17
     by_cases c78 : x8_1 = true
     · subst c78
       rw [if_pos rfl] at H
       simp only [Option.some.injEq, Prod.mk.injEq] at H
       obtain ⟨rfl, rfl, rfl⟩ := H
       have hnb79 := NB149_150.out; have hnc79 := NB150_149.out; have hnb80 := NB149_151.out; have hnc80 := NB151_149.out; have hnb81 := NB149_152.out; have hnc81 := NB152_149.out
       obtain ⟨hcz82_0, hcz82_1, hcz82_2, hfz82_0, hfz82_1, hfz82_2⟩ := nK3 BK149.out
       have hnb83 := NB152_150.out; have hnc83 := NB150_152.out; have hnb84 := NB152_151.out; have hnc84 := NB151_152.out
       obtain ⟨hcz85_0, hcz85_1, hcz85_2, hfz85_0, hfz85_1, hfz85_2⟩ := nK3 BK152.out
       have hnb86 := NB151_150.out; have hnc86 := NB150_151.out
       obtain ⟨hcz87_0, hcz87_1, hcz87_2, hfz87_0, hfz87_1, hfz87_2⟩ := nK3 BK151.out
       obtain ⟨Ao88, co88, eo88⟩ := Kd.R_slice HO_153002.out
       subst eo88
       go_wp2
       refine bodyPost_ret (results_cell_row rfl _ _ gb151 29 #[.int .i64 a0_0, .int .i64 a0_1, .slice Ao88 x153002_1.length co88] (0, 0) _ rfl (by refine nE ?_; refine blk_put (cs := #[.int .i64 a0_0, .int .i64 a0_1, .slice none 0 0]) ?_ 2 _ rfl; refine nE ?_; refine blk_put (cs := #[.int .i64 a0_0, .int .i64 0, .slice none 0 0]) ?_ 1 _ rfl; refine nE ?_; refine blk_put (cs := #[.int .i64 0, .int .i64 0, .slice none 0 0]) ?_ 0 _ rfl; refine nE ?_; exact BK151.out) Try.underlying29 rfl (by kernel_rfl)) rfl ?_
       exact ⟨_, by first | rfl | (simp [errW_none, errW_some] <;> rfl) | (simp [*, errW_none, errW_some] <;> first | rfl | (simp [wrap64]; done)), by (with_reducible repeat (first | apply Kd.R_alloc | apply Kd.R_drewN | apply Kd.R_drew)); exact Kd.R_mono (Kd.R_far (p := ⟨gb151, 2, none⟩) (Kd.R_far (p := ⟨gb151, 1, none⟩) (Kd.R_far (p := ⟨gb151, 0, none⟩) (Kd.R_types HO_153002.out BK151.out (by decide)) (fun _ hk => hk.2) (.int .i64 a0_0)) (fun _ hk => hk.2) (.int .i64 a0_1)) (fun _ hk => hk.2) (.slice Ao88 x153002_1.length co88)) (fun _ hk => trivial), by repeat (first | (with_reducible first | exact HB.out | apply below_alloc | apply pw_below_drewN | apply below_drew1 | refine below_set ?_ GE149.out | refine below_set ?_ GE150.out | refine below_set ?_ GE151.out | refine below_set ?_ GE152.out) | exact HB.out)⟩
     · replace c78 := Bool.eq_false_iff.mpr c78
       subst c78
       rw [if_neg nN] at H
       by_cases c89 : x153002_1.length < 4398046511104
       rotate_left
       · (rw [if_neg c89] at H; exact absurd H (by simp))
       rw [if_pos c89] at H
       have LMc89 := aM c89
       clear c89
       obtain ⟨y153, hy153⟩ : ∃ y_ : List (S66), y_ = (x153002_1 ++ [(⟨a2_0, a2_1, a2_2, a2_3⟩ : S66)]) := ⟨_, rfl⟩
       replace H : (some (a0_0, a0_1, y153)) = some (r1, r2, r3) := by first | (rw [hy153]; with_reducible exact H) | (have H2_ := (Option.bind_some _ _).symm.trans H; rw [hy153]; with_reducible exact H2_) | (have H2_ := (Option.bind_some _ _).symm.trans H; with_reducible exact H2_) | with_reducible exact H | (rw [hy153]; exact H) | exact H
       have Ny153 := aM hy153
       clear hy153
       simp only [Option.some.injEq, Prod.mk.injEq] at H
       obtain ⟨rfl, rfl, rfl⟩ := H
       have hnb90 := NB149_150.out; have hnc90 := NB150_149.out; have hnb91 := NB149_151.out; have hnc91 := NB151_149.out; have hnb92 := NB149_152.out; have hnc92 := NB152_149.out
       obtain ⟨hcz93_0, hcz93_1, hcz93_2, hfz93_0, hfz93_1, hfz93_2⟩ := nK3 BK149.out
       have hnb94 := NB152_150.out; have hnc94 := NB150_152.out; have hnb95 := NB152_151.out; have hnc95 := NB151_152.out
       obtain ⟨hcz96_0, hcz96_1, hcz96_2, hfz96_0, hfz96_1, hfz96_2⟩ := nK3 BK152.out
       have hnb97 := NB150_151.out; have hnc97 := NB151_150.out
       obtain ⟨hcz98_0, hcz98_1, hcz98_2, hcz98_3, hfz98_0, hfz98_1, hfz98_2, hfz98_3⟩ := nK4 BK150.out
       go_wp2_with (first | ((with_reducible refine gate_builtin (b := .append) (xs := #[.tmp 65, .tmp 67]) rfl ?_); at_builtin; refine Kd.R_append k66 (w0 := w) w.heap.size rfl (.tmp 65) (.tmp 67) 27 66 (.agg #[(.int .i64 0), (.int .i64 0), (.int .i64 0), (.int .i64 0)]) 32 rfl Try.underlying27 info66 rfl (by decide) (by omega) u153002 x153002_1 (⟨a2_0, a2_1, a2_2, a2_3⟩ : S66) [.int .i64 a2_0, .int .i64 a2_1, .int .i64 a2_2, .int .i64 a2_3] (fun k_ => k_ ≠ gb150) (fun _ => False) rfl rfl ?aP (fun _ hk => hk.elim) ?aF ?aO ?aB ?aS ?aL ?_; (case aP => exact k66_mkM _ _ _ (⟨a2_0, a2_1, a2_2, a2_3⟩ : S66)); (case aB => exact (by repeat (first | (with_reducible first | exact HB.out | apply below_alloc | apply pw_below_drewN | apply below_drew1 | refine below_set ?_ GE149.out | refine below_set ?_ GE150.out | refine below_set ?_ GE151.out | refine below_set ?_ GE152.out) | exact HB.out))); (case aF => exact (fun k_ hk => Kd.freshB (g := gb150) (o := .cells #[.int .i64 a2_0, .int .i64 a2_1, .int .i64 a2_2, .int .i64 a2_3] 66 (0, 0)) (nB BK150.out) k_ hk)); (case aO => exact (nR HO_153002.out)); (case aS => exact (below_size (by repeat (first | (with_reducible first | exact HB.out | apply below_alloc | apply pw_below_drewN | apply below_drew1 | refine below_set ?_ GE149.out | refine below_set ?_ GE150.out | refine below_set ?_ GE151.out | refine below_set ?_ GE152.out) | exact HB.out)))); (case aL => have := LMc89.out; omega); intro v154 w99 ho hb hg hat; rw [← Ny153.out] at ho; have n_ := aA (blk_grown (g := gb149) (o := .cells #[.int .i64 a0_0, .int .i64 a0_1, .slice A0_2 l0_2.length c0_2] 29 (0, 0)) (nB BK149.out) hg (Kd.R_ne HO_153002.out BK149.out (by decide))) <| aA (blk_grown (g := gb150) (o := .cells #[.int .i64 a2_0, .int .i64 a2_1, .int .i64 a2_2, .int .i64 a2_3] 66 (0, 0)) (nB BK150.out) hg (Kd.R_away HO_153002.out (fun _ hk => hk))) <| aA (blk_grown (g := gb151) (o := .cells #[.int .i64 0, .int .i64 0, .slice none 0 0] 29 (0, 0)) (nB BK151.out) hg (Kd.R_ne HO_153002.out BK151.out (by decide))) <| aA (blk_grown (g := gb152) (o := .cells #[.int .i64 a0_0, .int .i64 a0_1, u153002] 29 (0, 0)) (nB BK152.out) hg (Kd.R_ne HO_153002.out BK152.out (by decide))) <| aA (hb) <| aM (ho); clear BK149 BK150 BK151 BK152 HB HO_153002; obtain ⟨BK149, BK150, BK151, BK152, HB, HO155⟩ := n_; clear ho hb hg hat; obtain ⟨Ao100, co100, eo100⟩ := Kd.R_slice HO155.out; subst eo100; obtain ⟨hcz101_0, hcz101_1, hcz101_2, hfz101_0, hfz101_1, hfz101_2⟩ := nK3 BK152.out; obtain ⟨hcz102_0, hcz102_1, hcz102_2, hfz102_0, hfz102_1, hfz102_2⟩ := nK3 BK151.out))
       refine bodyPost_ret (results_cell_row rfl _ _ gb151 29 #[.int .i64 a0_0, .int .i64 a0_1, .slice Ao100 y153.length co100] (0, 0) _ rfl (by refine nE ?_; refine blk_put (cs := #[.int .i64 a0_0, .int .i64 a0_1, .slice none 0 0]) ?_ 2 _ rfl; refine nE ?_; refine blk_put (cs := #[.int .i64 a0_0, .int .i64 0, .slice none 0 0]) ?_ 1 _ rfl; refine nE ?_; refine blk_put (cs := #[.int .i64 0, .int .i64 0, .slice none 0 0]) ?_ 0 _ rfl; refine nE ?_; refine blk_far ?_ NB151_152.out _; refine nE ?_; exact BK151.out) Try.underlying29 rfl (by kernel_rfl)) rfl ?_
       exact ⟨_, by first | rfl | (simp [errW_none, errW_some] <;> rfl) | (simp [*, errW_none, errW_some] <;> first | rfl | (simp [wrap64]; done)), by (with_reducible repeat (first | apply Kd.R_alloc | apply Kd.R_drewN | apply Kd.R_drew)); exact Kd.R_mono (Kd.R_far (p := ⟨gb151, 2, none⟩) (Kd.R_far (p := ⟨gb151, 1, none⟩) (Kd.R_far (p := ⟨gb151, 0, none⟩) (Kd.R_far (p := ⟨gb152, 2, none⟩) (Kd.R_types (Kd.R_types HO155.out BK152.out (by decide)) BK151.out (by decide)) (fun _ hk => hk.1.2) (.slice Ao100 y153.length co100)) (fun _ hk => hk.2) (.int .i64 a0_0)) (fun _ hk => hk.2) (.int .i64 a0_1)) (fun _ hk => hk.2) (.slice Ao100 y153.length co100)) (fun _ hk => trivial), by repeat (first | (with_reducible first | exact HB.out | apply below_alloc | apply pw_below_drewN | apply below_drew1 | refine below_set ?_ GE149.out | refine below_set ?_ GE150.out | refine below_set ?_ GE151.out | refine below_set ?_ GE152.out) | exact HB.out)⟩
end Go.Proofs.Ytklikbjlfaednaa.P

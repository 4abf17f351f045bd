/- Contracts of the functions of the program, each one with its plain Lean function; written by a program of the session out of the translation. -/
import Derived.Test.YtklikbjlfaednaaNe
import Derived.Test.YtklikbjlfaednaaNb
import Derived.Test.YtklikbjlfaednaaPx0
import Derived.Test.YtklikbjlfaednaaPx13
import Derived.Test.YtklikbjlfaednaaPx24
import Derived.Test.YtklikbjlfaednaaPx25
import Derived.Test.YtklikbjlfaednaaPx27
import Derived.Test.YtklikbjlfaednaaPx28
namespace Go.Proofs.Ytklikbjlfaednaa.P
open Go.RowKit Go.Proofs.YtklikbjlfaednaaW.PrintWords Go.Proofs.YtklikbjlfaednaaW.PrintLast Go.Proofs.YtklikbjlfaednaaW.PrintMore
attribute [local go_sem] max2_int min2_int max_two min_two max_three min_three max_four min_four   -- for this text's walks alone
set_option linter.unusedVariables false
set_option linter.unusedSimpArgs false
/-! ### spec_l14DrawRight: function 64 -/
theorem spec_l14DrawRight.mono : ∀ a0 a1 a2 a3 k, LeO (spec_l14DrawRight.f k a0 a1 a2 a3) (spec_l14DrawRight.f (k + 1) a0 a1 a2 a3) := by
 intro a0 a1 a2 a3 k
 unfold spec_l14DrawRight.f
 repeat' first
  | (with_reducible exact spec_PlaySales.mono _ _ _ _ _)
  | (with_reducible exact spec_l14DrawSales.mono _ _ _ _ _ _)
  | (with_reducible exact LeO.refl _)
  | (with_reducible exact LeO.none _)
  | (with_reducible refine LeO.ite ?_ ?_)
  | (with_reducible refine LeO.bind ?_ (fun _ => ?_))
  | exact spec_PlaySales.mono _ _ _ _ _
  | exact spec_l14DrawSales.mono _ _ _ _ _ _
  | exact LeO.none _
  | refine LeO.ite ?_ ?_
  | refine LeO.bind ?_ (fun _ => ?_)
def spec_l14DrawRight.T2 : Bool × List (List Nat × List Nat) := (true, [([], []), ([], []), ([], []), ([2], [2]), ([3], [3]), ([], []), ([5], [5]), ([1, 4, 6, 3], [1, 4, 6]), ([0, 7, 7], [0, 7]), ([8], [8]), ([9], [9]), ([9], [9]), ([], []), ([12, 10, 8, 0, 1, 2, 3, 4, 5, 6, 7, 8, 9, 10, 12], [10, 12]), ([11, 13, 0, 1, 2, 3, 4, 5, 6, 7, 8, 9, 10, 11, 12, 13], [11])])
def spec_l14DrawRight.B2 : List Nat := [0, 0, 0, 4, 12, 0, 32, 126, 255, 511, 1023, 1023, 0, 6143, 16383]
theorem spec_l14DrawRight.tab2 : rtab .any (opsOf Try.f64 2) = spec_l14DrawRight.T2 := by kernel_rfl
theorem spec_l14DrawRight.bits2 : waitsOk spec_l14DrawRight.T2.2 spec_l14DrawRight.B2 = true := by kernel_rfl
set_option maxHeartbeats 8000000 in
set_option maxRecDepth 100000 in
theorem spec_l14DrawRight.calls (k : Nat) (g : Nat) (s0_0 : List Int) (s0_1 : Int) (s0_2 : Int) (A1 : Option Addr) (c1 : Nat) (l1 : List Int) (r1 : Int) (r2 : Int) (r3 : List (S66)) (r4 : Int) (r5 : Int) (w0 w : World) (hI : IsS97 w0 w g s0_0 s0_1 s0_2) (hB : Below w0.heap.size w0 w) (hr1 : Kd.C (Kd.int .u8) w A1 l1.length l1) (hc1 : l1.length ≤ c1) (hf1 : ∀ ad, A1 = some ad → 0 < l1.length → ad.block ≠ g) (h : spec_l14DrawRight.f k s0_0 s0_1 s0_2 l1 = some (r1, r2, r3, r4, r5)) :
 Calls Try.prog 64 #[.pointer (some ⟨g, 0, none⟩), .slice A1 l1.length c1] w fun e w' => ∃ v2_ : Value, e = .returned (.agg #[.int .i64 r1, .int .i64 r2, v2_]) ∧ Kd.R k66 66 w' w.heap.size (fun _ => True) v2_ r3 ∧ IsS97 w0 w' g s0_0 r4 r5 ∧ Below w0.heap.size w0 w' ∧ KeepBut w w' g none := by
 have hu29 := Try.underlying29
 have HR1 := aM hr1
 have HC1 := aM hc1
 clear hr1 hc1
 have HI0 := aM hI
 have HK := aM (KeepBut.refl w g none)
 have HL := aM hB.size
 clear hI
 have HW0 := aM hB.size
 have HB := aM hB
 clear hB
 have H : ((spec_l01Below.f s0_0 s0_1 s0_2 4).bind fun bt345 => ((spec_l01Below.f s0_0 bt345.2.1 bt345.2.2 6).bind fun bt348 => ((spec_l01Size.f l1 16).bind fun t352 => ((spec_l14DrawSales.f k s0_0 bt348.2.1 bt348.2.2 (wrap64 (2 + t352)) (wrap64 (1 + bt348.1))).bind fun bt353 => ((spec_PlaySales.f k (wrap64 (1 + bt345.1)) (wrap64 (1 + bt348.1)) ([] : List (S66)) bt353.1).bind fun bt358 => (some (bt358.1, bt358.2.1, bt358.2.2.1, bt353.2.1, bt353.2.2))))))) = some (r1, r2, r3, r4, r5) := h
 clear h
 replace H := Option.bind_eq_some_iff.mp H
 obtain ⟨⟨t345, t346, t347⟩, A30, H⟩ := H
 replace H : ((spec_l01Below.f s0_0 t346 t347 6).bind fun bt348 => ((spec_l01Size.f l1 16).bind fun t352 => ((spec_l14DrawSales.f k s0_0 bt348.2.1 bt348.2.2 (wrap64 (2 + t352)) (wrap64 (1 + bt348.1))).bind fun bt353 => ((spec_PlaySales.f k (wrap64 (1 + t345)) (wrap64 (1 + bt348.1)) ([] : List (S66)) bt353.1).bind fun bt358 => (some (bt358.1, bt358.2.1, bt358.2.2.1, bt353.2.1, bt353.2.2)))))) = some (r1, r2, r3, r4, r5) := H
 have A3 := aM A30
 clear A30
 replace H := Option.bind_eq_some_iff.mp H
 obtain ⟨⟨t348, t349, t350⟩, A40, H⟩ := H
 replace H : ((spec_l01Size.f l1 16).bind fun t352 => ((spec_l14DrawSales.f k s0_0 t349 t350 (wrap64 (2 + t352)) (wrap64 (1 + t348))).bind fun bt353 => ((spec_PlaySales.f k (wrap64 (1 + t345)) (wrap64 (1 + t348)) ([] : List (S66)) bt353.1).bind fun bt358 => (some (bt358.1, bt358.2.1, bt358.2.2.1, bt353.2.1, bt353.2.2))))) = some (r1, r2, r3, r4, r5) := H
 have A4 := aM A40
 clear A40
 obtain ⟨t352, A50, H⟩ := Option.bind_eq_some_iff.mp H
 have A5 := aM A50
 clear A50
 replace H := Option.bind_eq_some_iff.mp H
 obtain ⟨⟨t353, t356, t357⟩, A60, H⟩ := H
 replace H : ((spec_PlaySales.f k (wrap64 (1 + t345)) (wrap64 (1 + t348)) ([] : List (S66)) t353).bind fun bt358 => (some (bt358.1, bt358.2.1, bt358.2.2.1, t356, t357))) = some (r1, r2, r3, r4, r5) := H
 have A6 := aM A60
 clear A60
 replace H := Option.bind_eq_some_iff.mp H
 obtain ⟨⟨t358, t359, t360, t363⟩, A70, H⟩ := H
 replace H : (some (t358, t359, t360, t356, t357)) = some (r1, r2, r3, r4, r5) := H
 have A7 := aM A70
 clear A70
 simp only [Option.some.injEq, Prod.mk.injEq] at H
 obtain ⟨rfl, rfl, rfl, rfl, rfl⟩ := H
 go_enter Try.func64, Try.ntmps64
 try go_wp2_with (first | (refine nBx 4 rfl #[.int .i64 0, .int .i64 0, .slice none 0 0] 29 ?_; intro gb344 hg w8 hbox hb; have n_ := aA (IsS97.below (by repeat (first | (with_reducible first | exact HI0.out | apply IsS97.alloc | apply IsS97.drewN | apply IsS97.drew | apply IsS97.set_1 | apply IsS97.set_2) | exact HI0.out)) hb) <| aA (KeepBut.trans (by repeat (first | (with_reducible first | exact HK.out | apply KeepBut.set_ | apply keep_drewN | apply keep_drew | apply keep_alloc) | exact HK.out)) (KeepBut.of_below hb g none) (.inl rfl)) <| aA (below_step (by repeat (first | (with_reducible first | exact HB.out | apply below_alloc | apply pw_below_drewN | apply below_drew1 | refine below_set ?_ (IsS97.ge HI0.out)) | exact HB.out)) hb) <| aA (hbox) <| aA (by rw [hg]; exact (keep_size (w := w) (g := g) (row := none) (by repeat (first | (with_reducible first | exact HK.out | apply KeepBut.set_ | apply keep_drewN | apply keep_drew | apply keep_alloc) | exact HK.out))) : w.heap.size ≤ gb344) <| aA (Nat.le_trans HW0.out (by rw [hg]; exact (keep_size (w := w) (g := g) (row := none) (by repeat (first | (with_reducible first | exact HK.out | apply KeepBut.set_ | apply keep_drewN | apply keep_drew | apply keep_alloc) | exact HK.out))) : w.heap.size ≤ gb344) : w0.heap.size ≤ gb344) <| aA (by rw [hg]; exact Nat.ne_of_lt (IsS97.lt (show IsS97 w0 _ g s0_0 s0_1 s0_2 from by repeat (first | (with_reducible first | exact HI0.out | apply IsS97.alloc | apply IsS97.drewN | apply IsS97.drew | apply IsS97.set_1 | apply IsS97.set_2) | exact HI0.out))) : g ≠ gb344) <| aM (by rw [hg]; exact Nat.ne_of_gt (IsS97.lt (show IsS97 w0 _ g s0_0 s0_1 s0_2 from by repeat (first | (with_reducible first | exact HI0.out | apply IsS97.alloc | apply IsS97.drewN | apply IsS97.drew | apply IsS97.set_1 | apply IsS97.set_2) | exact HI0.out))) : gb344 ≠ g); clear HI0 HK HB; obtain ⟨HI0, HK, HB, BK344, GW344, GE344, NB0_344, NB344_0⟩ := n_; clear hb hbox hg) | ((with_reducible refine gate_callee (f := 75) rfl ?_); refine goesL_ (some 9) rfl rfl Try.func75 (by kernel_rfl) rfl #[.pointer (some ⟨g, 0, none⟩), .int .i64 4] rfl (by (try simp only [List.map_toArray, List.map_cons, List.map_nil]); first | done | rfl | (simp only [List.length_drop, List.length_take]; rfl)) ?_; (with_reducible refine (spec_l01Below.calls g s0_0 s0_1 s0_2 4 t345 t346 t347 w0 _ ?side1 ?side2 A3.out).mono ?_); (case side1 => repeat (first | (with_reducible first | exact HI0.out | apply IsS97.alloc | apply IsS97.drewN | apply IsS97.drew | apply IsS97.set_1 | apply IsS97.set_2 | refine IsS97.far ?_ NB0_344.out _) | exact HI0.out)); (case side2 => repeat (first | (with_reducible first | exact HB.out | apply below_alloc | apply pw_below_drewN | apply below_drew1 | refine below_set ?_ (IsS97.ge HI0.out) | refine below_set ?_ GE344.out) | exact HB.out)); rintro e w9 ⟨rfl, hi, hb, hk⟩; refine ⟨_, rfl, ?_⟩; have n_ := aA (KeepBut.blk hk (g' := gb344) (o := .cells #[.int .i64 0, .int .i64 0, .slice none 0 0] 29 (0, 0)) (nB BK344.out) NB344_0.out (by simp)) <| aA (KeepBut.trans (by repeat (first | (with_reducible first | exact HK.out | apply KeepBut.set_ | apply keep_drewN | apply keep_drew | apply keep_alloc | refine keep_far ?_ GW344.out _) | exact HK.out)) hk (.inl rfl)) <| aA (hb) <| aM (hi); clear BK344 HK HB HI0; obtain ⟨BK344, HK, HB, HI0⟩ := n_; (try clear hb); (try clear hb2); (try clear hk); (try clear hi)) | ((with_reducible refine gate_callee (f := 75) rfl ?_); refine goesL_ (some 12) rfl rfl Try.func75 (by kernel_rfl) rfl #[.pointer (some ⟨g, 0, none⟩), .int .i64 6] rfl (by (try simp only [List.map_toArray, List.map_cons, List.map_nil]); first | done | rfl | (simp only [List.length_drop, List.length_take]; rfl)) ?_; (with_reducible refine (spec_l01Below.calls g s0_0 t346 t347 6 t348 t349 t350 w0 _ ?side1 ?side2 A4.out).mono ?_); (case side1 => repeat (first | (with_reducible first | exact HI0.out | apply IsS97.alloc | apply IsS97.drewN | apply IsS97.drew | apply IsS97.set_1 | apply IsS97.set_2 | refine IsS97.far ?_ NB0_344.out _) | exact HI0.out)); (case side2 => repeat (first | (with_reducible first | exact HB.out | apply below_alloc | apply pw_below_drewN | apply below_drew1 | refine below_set ?_ (IsS97.ge HI0.out) | refine below_set ?_ GE344.out) | exact HB.out)); rintro e w10 ⟨rfl, hi, hb, hk⟩; refine ⟨_, rfl, ?_⟩; have n_ := aA (KeepBut.blk hk (g' := gb344) (o := .cells #[.int .i64 0, .int .i64 0, .slice none 0 0] 29 (0, 0)) (nB BK344.out) NB344_0.out (by simp)) <| aA (KeepBut.trans (by repeat (first | (with_reducible first | exact HK.out | apply KeepBut.set_ | apply keep_drewN | apply keep_drew | apply keep_alloc | refine keep_far ?_ GW344.out _) | exact HK.out)) hk (.inl rfl)) <| aA (hb) <| aM (hi); clear BK344 HK HB HI0; obtain ⟨BK344, HK, HB, HI0⟩ := n_; (try clear hb); (try clear hb2); (try clear hk); (try clear hi)) | (refine nBx 5 rfl #[.int .i64 0, .int .i64 0, .slice none 0 0] 29 ?_; intro gb351 hg w11 hbox hb; have n_ := aA (IsS97.below (by repeat (first | (with_reducible first | exact HI0.out | apply IsS97.alloc | apply IsS97.drewN | apply IsS97.drew | apply IsS97.set_1 | apply IsS97.set_2 | refine IsS97.far ?_ NB0_344.out _) | exact HI0.out)) hb) <| aA (nBB BK344.out hb) <| aA (KeepBut.trans (by repeat (first | (with_reducible first | exact HK.out | apply KeepBut.set_ | apply keep_drewN | apply keep_drew | apply keep_alloc | refine keep_far ?_ GW344.out _) | exact HK.out)) (KeepBut.of_below hb g none) (.inl rfl)) <| aA (below_step (by repeat (first | (with_reducible first | exact HB.out | apply below_alloc | apply pw_below_drewN | apply below_drew1 | refine below_set ?_ (IsS97.ge HI0.out) | refine below_set ?_ GE344.out) | exact HB.out)) hb) <| aA (hbox) <| aA (by rw [hg]; exact (keep_size (w := w) (g := g) (row := none) (by repeat (first | (with_reducible first | exact HK.out | apply KeepBut.set_ | apply keep_drewN | apply keep_drew | apply keep_alloc | refine keep_far ?_ GW344.out _) | exact HK.out))) : w.heap.size ≤ gb351) <| aA (Nat.le_trans HW0.out (by rw [hg]; exact (keep_size (w := w) (g := g) (row := none) (by repeat (first | (with_reducible first | exact HK.out | apply KeepBut.set_ | apply keep_drewN | apply keep_drew | apply keep_alloc | refine keep_far ?_ GW344.out _) | exact HK.out))) : w.heap.size ≤ gb351) : w0.heap.size ≤ gb351) <| aA (nBL BK344.out hg) <| aA (by rw [hg]; exact Nat.ne_of_gt (blk_lt (g := gb344) (o := .cells #[.int .i64 0, .int .i64 0, .slice none 0 0] 29 (0, 0)) (nB BK344.out)) : gb351 ≠ gb344) <| aA (by rw [hg]; exact Nat.ne_of_lt (IsS97.lt (show IsS97 w0 _ g s0_0 t349 t350 from by repeat (first | (with_reducible first | exact HI0.out | apply IsS97.alloc | apply IsS97.drewN | apply IsS97.drew | apply IsS97.set_1 | apply IsS97.set_2 | refine IsS97.far ?_ NB0_344.out _) | exact HI0.out))) : g ≠ gb351) <| aM (by rw [hg]; exact Nat.ne_of_gt (IsS97.lt (show IsS97 w0 _ g s0_0 t349 t350 from by repeat (first | (with_reducible first | exact HI0.out | apply IsS97.alloc | apply IsS97.drewN | apply IsS97.drew | apply IsS97.set_1 | apply IsS97.set_2 | refine IsS97.far ?_ NB0_344.out _) | exact HI0.out))) : gb351 ≠ g); clear HI0 BK344 HK HB; obtain ⟨HI0, BK344, HK, HB, BK351, GW351, GE351, NB344_351, NB351_344, NB0_351, NB351_0⟩ := n_; clear hb hbox hg; have hnb12 := NB351_344.out; have hnc12 := NB344_351.out; have hnb13 := NB351_0.out; have hnc13 := NB0_351.out; obtain ⟨hcz14_0, hcz14_1, hcz14_2, hfz14_0, hfz14_1, hfz14_2⟩ := nK3 BK351.out))
 have n0_ : Aside0 ((((w11.setCell ⟨gb351, 0, none⟩ (.int .i64 (wrap64 (1 + t345)))).setCell ⟨gb351, 1, none⟩ (.int .i64 (wrap64 (1 + t348)))).setCell ⟨gb351, 2, none⟩ (.slice none 0 0)).heap[gb344]? = some (.cells #[.int .i64 0, .int .i64 0, .slice none 0 0] 29 (0, 0))) := ⟨by refine nE ?_; refine blk_far ?_ NB344_351.out _; refine nE ?_; refine blk_far ?_ NB344_351.out _; refine nE ?_; refine blk_far ?_ NB344_351.out _; refine nE ?_; exact BK344.out⟩
 have n1_ : Aside0 ((((w11.setCell ⟨gb351, 0, none⟩ (.int .i64 (wrap64 (1 + t345)))).setCell ⟨gb351, 1, none⟩ (.int .i64 (wrap64 (1 + t348)))).setCell ⟨gb351, 2, none⟩ (.slice none 0 0)).heap[gb351]? = some (.cells #[.int .i64 (wrap64 (1 + t345)), .int .i64 (wrap64 (1 + t348)), .slice none 0 0] 29 (0, 0))) := ⟨by refine nE ?_; refine blk_put (cs := #[.int .i64 (wrap64 (1 + t345)), .int .i64 (wrap64 (1 + t348)), .slice none 0 0]) ?_ 2 _ rfl; refine nE ?_; refine blk_put (cs := #[.int .i64 (wrap64 (1 + t345)), .int .i64 0, .slice none 0 0]) ?_ 1 _ rfl; refine nE ?_; refine blk_put (cs := #[.int .i64 0, .int .i64 0, .slice none 0 0]) ?_ 0 _ rfl; refine nE ?_; exact BK351.out⟩
 have n2_ : Aside0 (IsS97 w0 (((w11.setCell ⟨gb351, 0, none⟩ (.int .i64 (wrap64 (1 + t345)))).setCell ⟨gb351, 1, none⟩ (.int .i64 (wrap64 (1 + t348)))).setCell ⟨gb351, 2, none⟩ (.slice none 0 0)) g s0_0 t349 t350) := ⟨by repeat (first | (with_reducible first | exact HI0.out | apply IsS97.alloc | apply IsS97.drewN | apply IsS97.drew | apply IsS97.set_1 | apply IsS97.set_2 | refine IsS97.far ?_ NB0_344.out _ | refine IsS97.far ?_ NB0_351.out _) | exact HI0.out)⟩
 have n3_ : Aside0 (KeepBut w (((w11.setCell ⟨gb351, 0, none⟩ (.int .i64 (wrap64 (1 + t345)))).setCell ⟨gb351, 1, none⟩ (.int .i64 (wrap64 (1 + t348)))).setCell ⟨gb351, 2, none⟩ (.slice none 0 0)) g none) := ⟨by repeat (first | (with_reducible first | exact HK.out | apply KeepBut.set_ | apply keep_drewN | apply keep_drew | apply keep_alloc | refine keep_far ?_ GW344.out _ | refine keep_far ?_ GW351.out _) | exact HK.out)⟩
 have n4_ : Aside0 (Below w0.heap.size w0 (((w11.setCell ⟨gb351, 0, none⟩ (.int .i64 (wrap64 (1 + t345)))).setCell ⟨gb351, 1, none⟩ (.int .i64 (wrap64 (1 + t348)))).setCell ⟨gb351, 2, none⟩ (.slice none 0 0))) := ⟨by repeat (first | (with_reducible first | exact HB.out | apply below_alloc | apply pw_below_drewN | apply below_drew1 | refine below_set ?_ (IsS97.ge HI0.out) | refine below_set ?_ GE344.out | refine below_set ?_ GE351.out) | exact HB.out)⟩
 (try clear BK344); (try clear BK351); (try clear HI0); (try clear HK); (try clear HB)
 generalize (((w11.setCell ⟨gb351, 0, none⟩ (.int .i64 (wrap64 (1 + t345)))).setCell ⟨gb351, 1, none⟩ (.int .i64 (wrap64 (1 + t348)))).setCell ⟨gb351, 2, none⟩ (.slice none 0 0)) = w15 at n0_ n1_ n2_ n3_ n4_ ⊢
 have BK344 := n0_; have BK351 := n1_; have HI0 := n2_; have HK := n3_; have HB := n4_; clear n0_ n1_ n2_ n3_ n4_
 have n_ := aA (blk_drew BK344.out) <| aA (blk_drew BK351.out) <| aA (IsS97.drew HI0.out) <| aA (keep_drew HK.out) <| aM (below_drew1 HB.out); clear BK344 BK351 HI0 HK HB; obtain ⟨BK344, BK351, HI0, HK, HB⟩ := n_
 refine start_ (n := 15) (S := fun w' => w'.cell? ⟨gb351, 0, none⟩ = some (.int .i64 (wrap64 (1 + t345))) ∧ w'.cell? ⟨gb351, 1, none⟩ = some (.int .i64 (wrap64 (1 + t348))) ∧ w'.cell? ⟨gb351, 2, none⟩ = some (.slice none 0 0)) (ds := []) #[F,F,F,F,F,F,F,F,F,F,F,F,F,F,F] (by kernel_rfl) rfl rfl ⟨(blk_cell BK351.out 0).trans rfl, (blk_cell BK351.out 1).trans rfl, (blk_cell BK351.out 2).trans rfl⟩ (fun hHeld => ?_); refine with_tabW spec_l14DrawRight.tab2 spec_l14DrawRight.bits2 (fun HT_ HW_ => ?_)
 generalize w15.drew = w16 at BK344 BK351 HI0 HK HB hHeld ⊢
 refine pU 1 (some 17) #[F,T,F,F,F,F,F,F,F,F,F,F,F,F,F] rfl rfl HT_.out ?_
 refine pU 2 (some 18) #[F,T,T,F,F,F,F,F,F,F,F,F,F,F,F] rfl rfl HT_.out ?_
 refine pU 5 (some 21) #[F,T,T,F,F,T,F,F,F,F,F,F,F,F,F] rfl rfl HT_.out ?_
 refine tU3 0 (some 16) #[T,T,T,F,F,T,F,F,F,F,F,F,F,F,F] rfl rfl HT_.out HW_.out hHeld ?_
 refine tU3 6 (some 22) #[T,T,T,F,F,T,T,F,F,F,F,F,F,F,F] rfl rfl HT_.out HW_.out hHeld ?_
 refine join_ (σ := Value × Value × Value × Nat) 2 #[T,T,T,T,T,T,T,T,T,T,T,T,T,F,F] (fun s_ => [(19, .int .i64 t352), (23, s_.1), (24, .tuple #[.agg #[.int .i64 t358, .int .i64 t359, s_.2.1], s_.2.2.1]), (6, .pointer (some ⟨s_.2.2.2, 0, none⟩)), (20, .int .i64 (wrap64 (2 + t352))), (15, .tuple #[.agg #[.int .i64 t358, .int .i64 t359, s_.2.1], s_.2.2.1]), (25, .agg #[.int .i64 t358, .int .i64 t359, s_.2.1]), (26, s_.2.2.1)]) (fun s_ w' => (w'.cell? ⟨gb351, 0, none⟩ = some (.int .i64 (wrap64 (1 + t345))) ∧ w'.cell? ⟨gb351, 1, none⟩ = some (.int .i64 (wrap64 (1 + t348))) ∧ w'.cell? ⟨gb351, 2, none⟩ = some (.slice none 0 0)) ∧ (Kd.R k56 56 w' w.heap.size (fun _ => True) s_.1 t353) ∧ (Kd.R k66 66 w' w.heap.size (fun _ => True) s_.2.1 t360) ∧ (Kd.R (Kd.int .i64) 3 w' w.heap.size (fun _ => True) s_.2.2.1 t363) ∧ (w'.heap[gb344]? = some (.cells #[.int .i64 0, .int .i64 0, .slice none 0 0] 29 (0, 0))) ∧ (w'.heap[gb351]? = some (.cells #[.int .i64 (wrap64 (1 + t345)), .int .i64 (wrap64 (1 + t348)), .slice none 0 0] 29 (0, 0))) ∧ (w'.heap[s_.2.2.2]? = some (.cells #[.int .i64 0, .int .i64 0, .slice none 0 0] 29 (0, 0))) ∧ (w.heap.size ≤ s_.2.2.2) ∧ (w0.heap.size ≤ s_.2.2.2) ∧ (g ≠ s_.2.2.2) ∧ (s_.2.2.2 ≠ g) ∧ (gb344 ≠ s_.2.2.2) ∧ (s_.2.2.2 ≠ gb344) ∧ (gb351 ≠ s_.2.2.2) ∧ (s_.2.2.2 ≠ gb351) ∧ (IsS97 w0 w' g s0_0 t356 t357) ∧ (KeepBut w w' g none) ∧ (Below w0.heap.size w0 w')) ?_ ?_
 rotate_left
 · intro hCont
   refine two_ (i := 3) (j := 12) (Ni := some 19) (Nj := some 6) #[T,T,T,T,F,T,T,F,F,F,F,F,F,F,F] #[T,T,T,F,F,T,T,F,F,F,F,F,T,F,F] rfl rfl rfl rfl (two_of HT_.out (by kernel_rfl)) (by decide) (by decide) (fun K hK => ?_) (fun K hK => ?_)
   · skip
     refine goes_ Try.func66 (by kernel_rfl) rfl #[.slice A1 l1.length c1, .int .i64 16] (by rfl) rfl rfl (by (try simp only [List.map_toArray, List.map_cons, List.map_nil]); first | done | rfl | (simp only [List.length_drop, List.length_take]; rfl)) ?_
     with_reducible refine (spec_l01Size.calls _ _ l1 16 t352 _ ?side1 ?side2 A5.out).mono ?_
     (case side1 => exact Kd.C_keep 0 HR1.out (by repeat (first | (with_reducible first | exact HK.out | apply KeepBut.set_ | apply keep_drewN | apply keep_drew | apply keep_alloc | refine keep_far ?_ GW344.out _ | refine keep_far ?_ GW351.out _) | exact HK.out)) hf1)
     (case side2 => exact HC1.out)
     rintro e w' ⟨rfl, ⟨nd, rfl⟩⟩
     refine ⟨_, rfl, ?_⟩
     refine hK.out _ _ ⟨(blk_cell BK351.out 0).trans rfl, (blk_cell BK351.out 1).trans rfl, (blk_cell BK351.out 2).trans rfl⟩ (fun hHeld => ?_)
     clear hK K
     refine norm_ (a' := ?_) ?_ ?_
     rotate_left
     · show Act.put _ (some 19) _ = _
       simp only [Act.put, List.setIfInBounds_toArray, List.set_cons_zero, List.set_cons_succ, i64_w, i32_w]
       rfl
     refine pU 4 (some 20) #[T,T,T,T,T,T,T,F,F,F,F,F,F,F,F] rfl rfl HT_.out ?_
     refine two_ (i := 7) (j := 12) (Ni := some 23) (Nj := some 6) #[T,T,T,T,T,T,T,T,F,F,F,F,F,F,F] #[T,T,T,T,T,T,T,F,F,F,F,F,T,F,F] rfl rfl rfl rfl (two_of HT_.out (by kernel_rfl)) (by decide) (by decide) (fun K hK => ?_) (fun K hK => ?_)
     · skip
       refine goes_ Try.func65 (by kernel_rfl) rfl #[.pointer (some ⟨g, 0, none⟩), .int .i64 (wrap64 (2 + t352)), .int .i64 (wrap64 (1 + t348))] (by rfl) rfl rfl (by (try simp only [List.map_toArray, List.map_cons, List.map_nil]); first | done | rfl | (simp only [List.length_drop, List.length_take]; rfl)) ?_
       with_reducible refine (spec_l14DrawSales.calls k g s0_0 t349 t350 (wrap64 (2 + t352)) (wrap64 (1 + t348)) t353 t356 t357 w0 _ ?side1 ?side2 A6.out).mono ?_
       (case side1 => repeat (first | (with_reducible first | exact HI0.out | apply IsS97.alloc | apply IsS97.drewN | apply IsS97.drew | apply IsS97.set_1 | apply IsS97.set_2 | refine IsS97.far ?_ NB0_344.out _ | refine IsS97.far ?_ NB0_351.out _) | exact HI0.out))
       (case side2 => repeat (first | (with_reducible first | exact HB.out | apply below_alloc | apply pw_below_drewN | apply below_drew1 | refine below_set ?_ (IsS97.ge HI0.out) | refine below_set ?_ GE344.out | refine below_set ?_ GE351.out) | exact HB.out))
       rintro e w17 ⟨v354, rfl, ho0, hi, hb, hk⟩
       refine ⟨_, rfl, ?_⟩
       have n_ := aA (KeepBut.blk hk (g' := gb344) (o := .cells #[.int .i64 0, .int .i64 0, .slice none 0 0] 29 (0, 0)) (nB BK344.out) NB344_0.out (by simp)) <| aA (KeepBut.blk hk (g' := gb351) (o := .cells #[.int .i64 (wrap64 (1 + t345)), .int .i64 (wrap64 (1 + t348)), .slice none 0 0] 29 (0, 0)) (nB BK351.out) NB351_0.out (by simp)) <| aA (Kd.R_lower ho0 (keep_size (w := w) (g := g) (row := none) (by repeat (first | (with_reducible first | exact HK.out | apply KeepBut.set_ | apply keep_drewN | apply keep_drew | apply keep_alloc | refine keep_far ?_ GW344.out _ | refine keep_far ?_ GW351.out _) | exact HK.out)))) <| aA (KeepBut.trans (by repeat (first | (with_reducible first | exact HK.out | apply KeepBut.set_ | apply keep_drewN | apply keep_drew | apply keep_alloc | refine keep_far ?_ GW344.out _ | refine keep_far ?_ GW351.out _) | exact HK.out)) hk (.inl rfl)) <| aA (hb) <| aM (hi); clear BK344 BK351 HK HB HI0; obtain ⟨BK344, BK351, HO355, HK, HB, HI0⟩ := n_; (try clear hb); (try clear hb2); (try clear hk); (try clear hi); (try clear ho0)
       obtain ⟨Ao18, co18, eo18⟩ := Kd.R_slice HO355.out
       (first | subst eo18 | (injection eo18 with f1_ f2_ f3_; have f4_ := f1_.symm; have f5_ := f3_.symm; clear f1_ f2_ f3_; subst f4_; subst f5_))
       refine hK.out _ _ ⟨(blk_cell BK351.out 0).trans rfl, (blk_cell BK351.out 1).trans rfl, (blk_cell BK351.out 2).trans rfl⟩ (fun hHeld => ?_)
       clear hK K
       refine norm_ (a' := ?_) ?_ ?_
       rotate_left
       · show Act.put _ (some 23) _ = _
         simp only [Act.put, List.setIfInBounds_toArray, List.set_cons_zero, List.set_cons_succ, i64_w, i32_w]
         rfl
       refine two_ (i := 8) (j := 12) (Ni := some 24) (Nj := some 6) #[T,T,T,T,T,T,T,T,T,F,F,F,F,F,F] #[T,T,T,T,T,T,T,T,F,F,F,F,T,F,F] rfl rfl rfl rfl (two_of HT_.out (by kernel_rfl)) (by decide) (by decide) (fun K hK => ?_) (fun K hK => ?_)
       · skip
         refine goes_ Try.func40 (by kernel_rfl) rfl #[.agg #[.int .i64 (wrap64 (1 + t345)), .int .i64 (wrap64 (1 + t348)), .slice none 0 0], .slice Ao18 t353.length co18] (by rfl) rfl rfl (by (try simp only [List.map_toArray, List.map_cons, List.map_nil]); first | done | rfl | (simp only [List.length_drop, List.length_take]; rfl)) ?_
         refine (spec_PlaySales.calls k (wrap64 (1 + t345)) (wrap64 (1 + t348)) _ _ ([] : List (S66)) _ _ t353 t358 t359 t360 t363 _ ?side1 ?side2 ?side3 ?side4 A7.out).mono ?_
         (case side1 => exact Kd.C_nil _ _)
         (case side2 => exact Nat.le_refl _)
         (case side3 => repeat (first | exact (Kd.R_reads' HO355.out).2.2 | (with_reducible refine Kd.C_alloc ?_ _) | (with_reducible refine Kd.C_drewN ?_ _) | (with_reducible refine Kd.C_drew ?_)))
         (case side4 => exact (Kd.R_reads' HO355.out).2.1)
         rintro e w19 ⟨v361, v364, rfl, ho0, ho1, hb⟩
         refine ⟨_, rfl, ?_⟩
         have n_ := aA (Kd.R_below (nR HO355.out) hb) <| aA (Kd.R_lower ho0 (keep_size (w := w) (g := g) (row := none) (by repeat (first | (with_reducible first | exact HK.out | apply KeepBut.set_ | apply keep_drewN | apply keep_drew | apply keep_alloc | refine keep_far ?_ GW344.out _ | refine keep_far ?_ GW351.out _) | exact HK.out)))) <| aA (Kd.R_lower ho1 (keep_size (w := w) (g := g) (row := none) (by repeat (first | (with_reducible first | exact HK.out | apply KeepBut.set_ | apply keep_drewN | apply keep_drew | apply keep_alloc | refine keep_far ?_ GW344.out _ | refine keep_far ?_ GW351.out _) | exact HK.out)))) <| aA (IsS97.below (by repeat (first | (with_reducible first | exact HI0.out | apply IsS97.alloc | apply IsS97.drewN | apply IsS97.drew | apply IsS97.set_1 | apply IsS97.set_2 | refine IsS97.far ?_ NB0_344.out _ | refine IsS97.far ?_ NB0_351.out _) | exact HI0.out)) hb) <| aA (nBB BK344.out hb) <| aA (nBB BK351.out hb) <| aA (KeepBut.trans (by repeat (first | (with_reducible first | exact HK.out | apply KeepBut.set_ | apply keep_drewN | apply keep_drew | apply keep_alloc | refine keep_far ?_ GW344.out _ | refine keep_far ?_ GW351.out _) | exact HK.out)) (KeepBut.of_below hb g none) (.inl rfl)) <| aM (below_step (by repeat (first | (with_reducible first | exact HB.out | apply below_alloc | apply pw_below_drewN | apply below_drew1 | refine below_set ?_ (IsS97.ge HI0.out) | refine below_set ?_ GE344.out | refine below_set ?_ GE351.out) | exact HB.out)) hb); clear HO355 HI0 BK344 BK351 HK HB; obtain ⟨HO355, HO362, HO365, HI0, BK344, BK351, HK, HB⟩ := n_; (try clear hb); (try clear hb2); (try clear hk); (try clear hi); (try clear ho0); (try clear ho1)
         refine hK.out _ _ ⟨(blk_cell BK351.out 0).trans rfl, (blk_cell BK351.out 1).trans rfl, (blk_cell BK351.out 2).trans rfl⟩ (fun hHeld => ?_)
         clear hK K
         refine norm_ (a' := ?_) ?_ ?_
         rotate_left
         · show Act.put _ (some 24) _ = _
           simp only [Act.put, List.setIfInBounds_toArray, List.set_cons_zero, List.set_cons_succ, i64_w, i32_w]
           rfl
         refine pU 9 (some 15) #[T,T,T,T,T,T,T,T,T,T,F,F,F,F,F] rfl rfl HT_.out ?_
         refine pU 10 (some 25) #[T,T,T,T,T,T,T,T,T,T,T,F,F,F,F] rfl rfl HT_.out ?_
         refine pU 11 (some 26) #[T,T,T,T,T,T,T,T,T,T,T,T,F,F,F] rfl rfl HT_.out ?_
         refine one_ (i := 12) (N := some 6) #[T,T,T,T,T,T,T,T,T,T,T,T,T,F,F] rfl rfl (one_of HT_.out (by kernel_rfl)) (by decide) (fun K hK => ?_)
         refine box_step ?hg (N := 6) ?hd (cs := #[.int .i64 0, .int .i64 0, .slice none 0 0]) (t := 29) ?hr ?_; (case hd => rfl); (case hg => rfl); (case hr => first | (go_simp; done) | (go_simp; rfl))
         intro gb366 hg w20 hbox hb
         have n_ := aA (Kd.R_below (nR HO355.out) hb) <| aA (Kd.R_below (nR HO362.out) hb) <| aA (Kd.R_below (nR HO365.out) hb) <| aA (IsS97.below (by repeat (first | (with_reducible first | exact HI0.out | apply IsS97.alloc | apply IsS97.drewN | apply IsS97.drew | apply IsS97.set_1 | apply IsS97.set_2 | refine IsS97.far ?_ NB0_344.out _ | refine IsS97.far ?_ NB0_351.out _) | exact HI0.out)) hb) <| aA (nBB BK344.out hb) <| aA (nBB BK351.out hb) <| aA (KeepBut.trans (by repeat (first | (with_reducible first | exact HK.out | apply KeepBut.set_ | apply keep_drewN | apply keep_drew | apply keep_alloc | refine keep_far ?_ GW344.out _ | refine keep_far ?_ GW351.out _) | exact HK.out)) (KeepBut.of_below hb g none) (.inl rfl)) <| aA (below_step (by repeat (first | (with_reducible first | exact HB.out | apply below_alloc | apply pw_below_drewN | apply below_drew1 | refine below_set ?_ (IsS97.ge HI0.out) | refine below_set ?_ GE344.out | refine below_set ?_ GE351.out) | exact HB.out)) hb) <| aA (hbox) <| aA (by rw [hg]; exact (keep_size (w := w) (g := g) (row := none) (by repeat (first | (with_reducible first | exact HK.out | apply KeepBut.set_ | apply keep_drewN | apply keep_drew | apply keep_alloc | refine keep_far ?_ GW344.out _ | refine keep_far ?_ GW351.out _) | exact HK.out))) : w.heap.size ≤ gb366) <| aA (Nat.le_trans HW0.out (by rw [hg]; exact (keep_size (w := w) (g := g) (row := none) (by repeat (first | (with_reducible first | exact HK.out | apply KeepBut.set_ | apply keep_drewN | apply keep_drew | apply keep_alloc | refine keep_far ?_ GW344.out _ | refine keep_far ?_ GW351.out _) | exact HK.out))) : w.heap.size ≤ gb366) : w0.heap.size ≤ gb366) <| aA (nBL BK344.out hg) <| aA (by rw [hg]; exact Nat.ne_of_gt (blk_lt (g := gb344) (o := .cells #[.int .i64 0, .int .i64 0, .slice none 0 0] 29 (0, 0)) (nB BK344.out)) : gb366 ≠ gb344) <| aA (nBL BK351.out hg) <| aA (by rw [hg]; exact Nat.ne_of_gt (blk_lt (g := gb351) (o := .cells #[.int .i64 (wrap64 (1 + t345)), .int .i64 (wrap64 (1 + t348)), .slice none 0 0] 29 (0, 0)) (nB BK351.out)) : gb366 ≠ gb351) <| aA (by rw [hg]; exact Nat.ne_of_lt (IsS97.lt (show IsS97 w0 _ g s0_0 t356 t357 from by repeat (first | (with_reducible first | exact HI0.out | apply IsS97.alloc | apply IsS97.drewN | apply IsS97.drew | apply IsS97.set_1 | apply IsS97.set_2 | refine IsS97.far ?_ NB0_344.out _ | refine IsS97.far ?_ NB0_351.out _) | exact HI0.out))) : g ≠ gb366) <| aM (by rw [hg]; exact Nat.ne_of_gt (IsS97.lt (show IsS97 w0 _ g s0_0 t356 t357 from by repeat (first | (with_reducible first | exact HI0.out | apply IsS97.alloc | apply IsS97.drewN | apply IsS97.drew | apply IsS97.set_1 | apply IsS97.set_2 | refine IsS97.far ?_ NB0_344.out _ | refine IsS97.far ?_ NB0_351.out _) | exact HI0.out))) : gb366 ≠ g); clear HO355 HO362 HO365 HI0 BK344 BK351 HK HB; obtain ⟨HO355, HO362, HO365, HI0, BK344, BK351, HK, HB, BK366, GW366, GE366, NB344_366, NB366_344, NB351_366, NB366_351, NB0_366, NB366_0⟩ := n_; clear hb hbox hg
         refine hK.out _ _ ⟨(blk_cell BK351.out 0).trans rfl, (blk_cell BK351.out 1).trans rfl, (blk_cell BK351.out 2).trans rfl⟩ (fun hHeld => ?_)
         clear hK K
         refine norm_ (a' := ?_) ?_ ?_
         rotate_left
         · show Act.put _ (some 6) _ = _
           simp only [Act.put, List.setIfInBounds_toArray, List.set_cons_zero, List.set_cons_succ, i64_w, i32_w]
           rfl
         exact norm_ (by simp only [putAll, Act.put, List.setIfInBounds_toArray, List.set_cons_zero, List.set_cons_succ]) (hCont (.slice Ao18 t353.length co18, v361, v364, gb366) _ ⟨hHeld, (nR HO355.out), (nR HO362.out), (nR HO365.out), (nB BK344.out), (nB BK351.out), (nB BK366.out), GW366.out, GE366.out, NB0_366.out, NB366_0.out, NB344_366.out, NB366_344.out, NB351_366.out, NB366_351.out, (by repeat (first | (with_reducible first | exact HI0.out | apply IsS97.alloc | apply IsS97.drewN | apply IsS97.drew | apply IsS97.set_1 | apply IsS97.set_2 | refine IsS97.far ?_ NB0_344.out _ | refine IsS97.far ?_ NB0_351.out _ | refine IsS97.far ?_ NB0_366.out _) | exact HI0.out)), (by repeat (first | (with_reducible first | exact HK.out | apply KeepBut.set_ | apply keep_drewN | apply keep_drew | apply keep_alloc | refine keep_far ?_ GW344.out _ | refine keep_far ?_ GW351.out _ | refine keep_far ?_ GW366.out _) | exact HK.out)), (by repeat (first | (with_reducible first | exact HB.out | apply below_alloc | apply pw_below_drewN | apply below_drew1 | refine below_set ?_ (IsS97.ge HI0.out) | refine below_set ?_ GE344.out | refine below_set ?_ GE351.out | refine below_set ?_ GE366.out) | exact HB.out))⟩)
       · skip
         refine box_step ?hg (N := 6) ?hd (cs := #[.int .i64 0, .int .i64 0, .slice none 0 0]) (t := 29) ?hr ?_; (case hd => rfl); (case hg => rfl); (case hr => first | (go_simp; done) | (go_simp; rfl))
         intro gb366 hg w18 hbox hb
         have n_ := aA (Kd.R_below (nR HO355.out) hb) <| aA (IsS97.below (by repeat (first | (with_reducible first | exact HI0.out | apply IsS97.alloc | apply IsS97.drewN | apply IsS97.drew | apply IsS97.set_1 | apply IsS97.set_2 | refine IsS97.far ?_ NB0_344.out _ | refine IsS97.far ?_ NB0_351.out _) | exact HI0.out)) hb) <| aA (nBB BK344.out hb) <| aA (nBB BK351.out hb) <| aA (KeepBut.trans (by repeat (first | (with_reducible first | exact HK.out | apply KeepBut.set_ | apply keep_drewN | apply keep_drew | apply keep_alloc | refine keep_far ?_ GW344.out _ | refine keep_far ?_ GW351.out _) | exact HK.out)) (KeepBut.of_below hb g none) (.inl rfl)) <| aA (below_step (by repeat (first | (with_reducible first | exact HB.out | apply below_alloc | apply pw_below_drewN | apply below_drew1 | refine below_set ?_ (IsS97.ge HI0.out) | refine below_set ?_ GE344.out | refine below_set ?_ GE351.out) | exact HB.out)) hb) <| aA (hbox) <| aA (by rw [hg]; exact (keep_size (w := w) (g := g) (row := none) (by repeat (first | (with_reducible first | exact HK.out | apply KeepBut.set_ | apply keep_drewN | apply keep_drew | apply keep_alloc | refine keep_far ?_ GW344.out _ | refine keep_far ?_ GW351.out _) | exact HK.out))) : w.heap.size ≤ gb366) <| aA (Nat.le_trans HW0.out (by rw [hg]; exact (keep_size (w := w) (g := g) (row := none) (by repeat (first | (with_reducible first | exact HK.out | apply KeepBut.set_ | apply keep_drewN | apply keep_drew | apply keep_alloc | refine keep_far ?_ GW344.out _ | refine keep_far ?_ GW351.out _) | exact HK.out))) : w.heap.size ≤ gb366) : w0.heap.size ≤ gb366) <| aA (nBL BK344.out hg) <| aA (by rw [hg]; exact Nat.ne_of_gt (blk_lt (g := gb344) (o := .cells #[.int .i64 0, .int .i64 0, .slice none 0 0] 29 (0, 0)) (nB BK344.out)) : gb366 ≠ gb344) <| aA (nBL BK351.out hg) <| aA (by rw [hg]; exact Nat.ne_of_gt (blk_lt (g := gb351) (o := .cells #[.int .i64 (wrap64 (1 + t345)), .int .i64 (wrap64 (1 + t348)), .slice none 0 0] 29 (0, 0)) (nB BK351.out)) : gb366 ≠ gb351) <| aA (by rw [hg]; exact Nat.ne_of_lt (IsS97.lt (show IsS97 w0 _ g s0_0 t356 t357 from by repeat (first | (with_reducible first | exact HI0.out | apply IsS97.alloc | apply IsS97.drewN | apply IsS97.drew | apply IsS97.set_1 | apply IsS97.set_2 | refine IsS97.far ?_ NB0_344.out _ | refine IsS97.far ?_ NB0_351.out _) | exact HI0.out))) : g ≠ gb366) <| aM (by rw [hg]; exact Nat.ne_of_gt (IsS97.lt (show IsS97 w0 _ g s0_0 t356 t357 from by repeat (first | (with_reducible first | exact HI0.out | apply IsS97.alloc | apply IsS97.drewN | apply IsS97.drew | apply IsS97.set_1 | apply IsS97.set_2 | refine IsS97.far ?_ NB0_344.out _ | refine IsS97.far ?_ NB0_351.out _) | exact HI0.out))) : gb366 ≠ g); clear HO355 HI0 BK344 BK351 HK HB; obtain ⟨HO355, HI0, BK344, BK351, HK, HB, BK366, GW366, GE366, NB344_366, NB366_344, NB351_366, NB366_351, NB0_366, NB366_0⟩ := n_; clear hb hbox hg
         obtain ⟨Ao19, co19, eo19⟩ := Kd.R_slice HO355.out
         (first | subst eo19 | (injection eo19 with f1_ f2_ f3_; have f4_ := f1_.symm; have f5_ := f3_.symm; clear f1_ f2_ f3_; subst f4_; subst f5_))
         refine hK.out _ _ ⟨(blk_cell BK351.out 0).trans rfl, (blk_cell BK351.out 1).trans rfl, (blk_cell BK351.out 2).trans rfl⟩ (fun hHeld => ?_)
         clear hK K
         refine norm_ (a' := ?_) ?_ ?_
         rotate_left
         · show Act.put _ (some 6) _ = _
           simp only [Act.put, List.setIfInBounds_toArray, List.set_cons_zero, List.set_cons_succ, i64_w, i32_w]
           rfl
         refine one_ (i := 8) (N := some 24) #[T,T,T,T,T,T,T,T,T,F,F,F,T,F,F] rfl rfl (one_of HT_.out (by kernel_rfl)) (by decide) (fun K hK => ?_)
         refine goes_ Try.func40 (by kernel_rfl) rfl #[.agg #[.int .i64 (wrap64 (1 + t345)), .int .i64 (wrap64 (1 + t348)), .slice none 0 0], .slice Ao19 t353.length co19] (by rfl) rfl rfl (by (try simp only [List.map_toArray, List.map_cons, List.map_nil]); first | done | rfl | (simp only [List.length_drop, List.length_take]; rfl)) ?_
         refine (spec_PlaySales.calls k (wrap64 (1 + t345)) (wrap64 (1 + t348)) _ _ ([] : List (S66)) _ _ t353 t358 t359 t360 t363 _ ?side1 ?side2 ?side3 ?side4 A7.out).mono ?_
         (case side1 => exact Kd.C_nil _ _)
         (case side2 => exact Nat.le_refl _)
         (case side3 => repeat (first | exact (Kd.R_reads' HO355.out).2.2 | (with_reducible refine Kd.C_alloc ?_ _) | (with_reducible refine Kd.C_drewN ?_ _) | (with_reducible refine Kd.C_drew ?_)))
         (case side4 => exact (Kd.R_reads' HO355.out).2.1)
         rintro e w20 ⟨v361, v364, rfl, ho0, ho1, hb⟩
         refine ⟨_, rfl, ?_⟩
         have n_ := aA (Kd.R_below (nR HO355.out) hb) <| aA (Kd.R_lower ho0 (keep_size (w := w) (g := g) (row := none) (by repeat (first | (with_reducible first | exact HK.out | apply KeepBut.set_ | apply keep_drewN | apply keep_drew | apply keep_alloc | refine keep_far ?_ GW344.out _ | refine keep_far ?_ GW351.out _ | refine keep_far ?_ GW366.out _) | exact HK.out)))) <| aA (Kd.R_lower ho1 (keep_size (w := w) (g := g) (row := none) (by repeat (first | (with_reducible first | exact HK.out | apply KeepBut.set_ | apply keep_drewN | apply keep_drew | apply keep_alloc | refine keep_far ?_ GW344.out _ | refine keep_far ?_ GW351.out _ | refine keep_far ?_ GW366.out _) | exact HK.out)))) <| aA (IsS97.below (by repeat (first | (with_reducible first | exact HI0.out | apply IsS97.alloc | apply IsS97.drewN | apply IsS97.drew | apply IsS97.set_1 | apply IsS97.set_2 | refine IsS97.far ?_ NB0_344.out _ | refine IsS97.far ?_ NB0_351.out _ | refine IsS97.far ?_ NB0_366.out _) | exact HI0.out)) hb) <| aA (nBB BK344.out hb) <| aA (nBB BK351.out hb) <| aA (nBB BK366.out hb) <| aA (KeepBut.trans (by repeat (first | (with_reducible first | exact HK.out | apply KeepBut.set_ | apply keep_drewN | apply keep_drew | apply keep_alloc | refine keep_far ?_ GW344.out _ | refine keep_far ?_ GW351.out _ | refine keep_far ?_ GW366.out _) | exact HK.out)) (KeepBut.of_below hb g none) (.inl rfl)) <| aM (below_step (by repeat (first | (with_reducible first | exact HB.out | apply below_alloc | apply pw_below_drewN | apply below_drew1 | refine below_set ?_ (IsS97.ge HI0.out) | refine below_set ?_ GE344.out | refine below_set ?_ GE351.out | refine below_set ?_ GE366.out) | exact HB.out)) hb); clear HO355 HI0 BK344 BK351 BK366 HK HB; obtain ⟨HO355, HO362, HO365, HI0, BK344, BK351, BK366, HK, HB⟩ := n_; (try clear hb); (try clear hb2); (try clear hk); (try clear hi); (try clear ho0); (try clear ho1)
         refine hK.out _ _ ⟨(blk_cell BK351.out 0).trans rfl, (blk_cell BK351.out 1).trans rfl, (blk_cell BK351.out 2).trans rfl⟩ (fun hHeld => ?_)
         clear hK K
         refine norm_ (a' := ?_) ?_ ?_
         rotate_left
         · show Act.put _ (some 24) _ = _
           simp only [Act.put, List.setIfInBounds_toArray, List.set_cons_zero, List.set_cons_succ, i64_w, i32_w]
           rfl
         refine pU 9 (some 15) #[T,T,T,T,T,T,T,T,T,T,F,F,T,F,F] rfl rfl HT_.out ?_
         refine pU 10 (some 25) #[T,T,T,T,T,T,T,T,T,T,T,F,T,F,F] rfl rfl HT_.out ?_
         refine pU 11 (some 26) #[T,T,T,T,T,T,T,T,T,T,T,T,T,F,F] rfl rfl HT_.out ?_
         exact norm_ (by simp only [putAll, Act.put, List.setIfInBounds_toArray, List.set_cons_zero, List.set_cons_succ]) (hCont (.slice Ao19 t353.length co19, v361, v364, gb366) _ ⟨hHeld, (nR HO355.out), (nR HO362.out), (nR HO365.out), (nB BK344.out), (nB BK351.out), (nB BK366.out), GW366.out, GE366.out, NB0_366.out, NB366_0.out, NB344_366.out, NB366_344.out, NB351_366.out, NB366_351.out, (by repeat (first | (with_reducible first | exact HI0.out | apply IsS97.alloc | apply IsS97.drewN | apply IsS97.drew | apply IsS97.set_1 | apply IsS97.set_2 | refine IsS97.far ?_ NB0_344.out _ | refine IsS97.far ?_ NB0_351.out _ | refine IsS97.far ?_ NB0_366.out _) | exact HI0.out)), (by repeat (first | (with_reducible first | exact HK.out | apply KeepBut.set_ | apply keep_drewN | apply keep_drew | apply keep_alloc | refine keep_far ?_ GW344.out _ | refine keep_far ?_ GW351.out _ | refine keep_far ?_ GW366.out _) | exact HK.out)), (by repeat (first | (with_reducible first | exact HB.out | apply below_alloc | apply pw_below_drewN | apply below_drew1 | refine below_set ?_ (IsS97.ge HI0.out) | refine below_set ?_ GE344.out | refine below_set ?_ GE351.out | refine below_set ?_ GE366.out) | exact HB.out))⟩)
     · skip
       refine box_step ?hg (N := 6) ?hd (cs := #[.int .i64 0, .int .i64 0, .slice none 0 0]) (t := 29) ?hr ?_; (case hd => rfl); (case hg => rfl); (case hr => first | (go_simp; done) | (go_simp; rfl))
       intro gb366 hg w17 hbox hb
       have n_ := aA (IsS97.below (by repeat (first | (with_reducible first | exact HI0.out | apply IsS97.alloc | apply IsS97.drewN | apply IsS97.drew | apply IsS97.set_1 | apply IsS97.set_2 | refine IsS97.far ?_ NB0_344.out _ | refine IsS97.far ?_ NB0_351.out _) | exact HI0.out)) hb) <| aA (nBB BK344.out hb) <| aA (nBB BK351.out hb) <| aA (KeepBut.trans (by repeat (first | (with_reducible first | exact HK.out | apply KeepBut.set_ | apply keep_drewN | apply keep_drew | apply keep_alloc | refine keep_far ?_ GW344.out _ | refine keep_far ?_ GW351.out _) | exact HK.out)) (KeepBut.of_below hb g none) (.inl rfl)) <| aA (below_step (by repeat (first | (with_reducible first | exact HB.out | apply below_alloc | apply pw_below_drewN | apply below_drew1 | refine below_set ?_ (IsS97.ge HI0.out) | refine below_set ?_ GE344.out | refine below_set ?_ GE351.out) | exact HB.out)) hb) <| aA (hbox) <| aA (by rw [hg]; exact (keep_size (w := w) (g := g) (row := none) (by repeat (first | (with_reducible first | exact HK.out | apply KeepBut.set_ | apply keep_drewN | apply keep_drew | apply keep_alloc | refine keep_far ?_ GW344.out _ | refine keep_far ?_ GW351.out _) | exact HK.out))) : w.heap.size ≤ gb366) <| aA (Nat.le_trans HW0.out (by rw [hg]; exact (keep_size (w := w) (g := g) (row := none) (by repeat (first | (with_reducible first | exact HK.out | apply KeepBut.set_ | apply keep_drewN | apply keep_drew | apply keep_alloc | refine keep_far ?_ GW344.out _ | refine keep_far ?_ GW351.out _) | exact HK.out))) : w.heap.size ≤ gb366) : w0.heap.size ≤ gb366) <| aA (nBL BK344.out hg) <| aA (by rw [hg]; exact Nat.ne_of_gt (blk_lt (g := gb344) (o := .cells #[.int .i64 0, .int .i64 0, .slice none 0 0] 29 (0, 0)) (nB BK344.out)) : gb366 ≠ gb344) <| aA (nBL BK351.out hg) <| aA (by rw [hg]; exact Nat.ne_of_gt (blk_lt (g := gb351) (o := .cells #[.int .i64 (wrap64 (1 + t345)), .int .i64 (wrap64 (1 + t348)), .slice none 0 0] 29 (0, 0)) (nB BK351.out)) : gb366 ≠ gb351) <| aA (by rw [hg]; exact Nat.ne_of_lt (IsS97.lt (show IsS97 w0 _ g s0_0 t349 t350 from by repeat (first | (with_reducible first | exact HI0.out | apply IsS97.alloc | apply IsS97.drewN | apply IsS97.drew | apply IsS97.set_1 | apply IsS97.set_2 | refine IsS97.far ?_ NB0_344.out _ | refine IsS97.far ?_ NB0_351.out _) | exact HI0.out))) : g ≠ gb366) <| aM (by rw [hg]; exact Nat.ne_of_gt (IsS97.lt (show IsS97 w0 _ g s0_0 t349 t350 from by repeat (first | (with_reducible first | exact HI0.out | apply IsS97.alloc | apply IsS97.drewN | apply IsS97.drew | apply IsS97.set_1 | apply IsS97.set_2 | refine IsS97.far ?_ NB0_344.out _ | refine IsS97.far ?_ NB0_351.out _) | exact HI0.out))) : gb366 ≠ g); clear HI0 BK344 BK351 HK HB; obtain ⟨HI0, BK344, BK351, HK, HB, BK366, GW366, GE366, NB344_366, NB366_344, NB351_366, NB366_351, NB0_366, NB366_0⟩ := n_; clear hb hbox hg
       refine hK.out _ _ ⟨(blk_cell BK351.out 0).trans rfl, (blk_cell BK351.out 1).trans rfl, (blk_cell BK351.out 2).trans rfl⟩ (fun hHeld => ?_)
       clear hK K
       refine norm_ (a' := ?_) ?_ ?_
       rotate_left
       · show Act.put _ (some 6) _ = _
         simp only [Act.put, List.setIfInBounds_toArray, List.set_cons_zero, List.set_cons_succ, i64_w, i32_w]
         rfl
       refine one_ (i := 7) (N := some 23) #[T,T,T,T,T,T,T,T,F,F,F,F,T,F,F] rfl rfl (one_of HT_.out (by kernel_rfl)) (by decide) (fun K hK => ?_)
       refine goes_ Try.func65 (by kernel_rfl) rfl #[.pointer (some ⟨g, 0, none⟩), .int .i64 (wrap64 (2 + t352)), .int .i64 (wrap64 (1 + t348))] (by rfl) rfl rfl (by (try simp only [List.map_toArray, List.map_cons, List.map_nil]); first | done | rfl | (simp only [List.length_drop, List.length_take]; rfl)) ?_
       with_reducible refine (spec_l14DrawSales.calls k g s0_0 t349 t350 (wrap64 (2 + t352)) (wrap64 (1 + t348)) t353 t356 t357 w0 _ ?side1 ?side2 A6.out).mono ?_
       (case side1 => repeat (first | (with_reducible first | exact HI0.out | apply IsS97.alloc | apply IsS97.drewN | apply IsS97.drew | apply IsS97.set_1 | apply IsS97.set_2 | refine IsS97.far ?_ NB0_344.out _ | refine IsS97.far ?_ NB0_351.out _ | refine IsS97.far ?_ NB0_366.out _) | exact HI0.out))
       (case side2 => repeat (first | (with_reducible first | exact HB.out | apply below_alloc | apply pw_below_drewN | apply below_drew1 | refine below_set ?_ (IsS97.ge HI0.out) | refine below_set ?_ GE344.out | refine below_set ?_ GE351.out | refine below_set ?_ GE366.out) | exact HB.out))
       rintro e w18 ⟨v354, rfl, ho0, hi, hb, hk⟩
       refine ⟨_, rfl, ?_⟩
       have n_ := aA (KeepBut.blk hk (g' := gb344) (o := .cells #[.int .i64 0, .int .i64 0, .slice none 0 0] 29 (0, 0)) (nB BK344.out) NB344_0.out (by simp)) <| aA (KeepBut.blk hk (g' := gb351) (o := .cells #[.int .i64 (wrap64 (1 + t345)), .int .i64 (wrap64 (1 + t348)), .slice none 0 0] 29 (0, 0)) (nB BK351.out) NB351_0.out (by simp)) <| aA (KeepBut.blk hk (g' := gb366) (o := .cells #[.int .i64 0, .int .i64 0, .slice none 0 0] 29 (0, 0)) (nB BK366.out) NB366_0.out (by simp)) <| aA (Kd.R_lower ho0 (keep_size (w := w) (g := g) (row := none) (by repeat (first | (with_reducible first | exact HK.out | apply KeepBut.set_ | apply keep_drewN | apply keep_drew | apply keep_alloc | refine keep_far ?_ GW344.out _ | refine keep_far ?_ GW351.out _ | refine keep_far ?_ GW366.out _) | exact HK.out)))) <| aA (KeepBut.trans (by repeat (first | (with_reducible first | exact HK.out | apply KeepBut.set_ | apply keep_drewN | apply keep_drew | apply keep_alloc | refine keep_far ?_ GW344.out _ | refine keep_far ?_ GW351.out _ | refine keep_far ?_ GW366.out _) | exact HK.out)) hk (.inl rfl)) <| aA (hb) <| aM (hi); clear BK344 BK351 BK366 HK HB HI0; obtain ⟨BK344, BK351, BK366, HO355, HK, HB, HI0⟩ := n_; (try clear hb); (try clear hb2); (try clear hk); (try clear hi); (try clear ho0)
       obtain ⟨Ao19, co19, eo19⟩ := Kd.R_slice HO355.out
       (first | subst eo19 | (injection eo19 with f1_ f2_ f3_; have f4_ := f1_.symm; have f5_ := f3_.symm; clear f1_ f2_ f3_; subst f4_; subst f5_))
       refine hK.out _ _ ⟨(blk_cell BK351.out 0).trans rfl, (blk_cell BK351.out 1).trans rfl, (blk_cell BK351.out 2).trans rfl⟩ (fun hHeld => ?_)
       clear hK K
       refine norm_ (a' := ?_) ?_ ?_
       rotate_left
       · show Act.put _ (some 23) _ = _
         simp only [Act.put, List.setIfInBounds_toArray, List.set_cons_zero, List.set_cons_succ, i64_w, i32_w]
         rfl
       refine one_ (i := 8) (N := some 24) #[T,T,T,T,T,T,T,T,T,F,F,F,T,F,F] rfl rfl (one_of HT_.out (by kernel_rfl)) (by decide) (fun K hK => ?_)
       refine goes_ Try.func40 (by kernel_rfl) rfl #[.agg #[.int .i64 (wrap64 (1 + t345)), .int .i64 (wrap64 (1 + t348)), .slice none 0 0], .slice Ao19 t353.length co19] (by rfl) rfl rfl (by (try simp only [List.map_toArray, List.map_cons, List.map_nil]); first | done | rfl | (simp only [List.length_drop, List.length_take]; rfl)) ?_
       refine (spec_PlaySales.calls k (wrap64 (1 + t345)) (wrap64 (1 + t348)) _ _ ([] : List (S66)) _ _ t353 t358 t359 t360 t363 _ ?side1 ?side2 ?side3 ?side4 A7.out).mono ?_
       (case side1 => exact Kd.C_nil _ _)
       (case side2 => exact Nat.le_refl _)
       (case side3 => repeat (first | exact (Kd.R_reads' HO355.out).2.2 | (with_reducible refine Kd.C_alloc ?_ _) | (with_reducible refine Kd.C_drewN ?_ _) | (with_reducible refine Kd.C_drew ?_)))
       (case side4 => exact (Kd.R_reads' HO355.out).2.1)
       rintro e w20 ⟨v361, v364, rfl, ho0, ho1, hb⟩
       refine ⟨_, rfl, ?_⟩
       have n_ := aA (Kd.R_below (nR HO355.out) hb) <| aA (Kd.R_lower ho0 (keep_size (w := w) (g := g) (row := none) (by repeat (first | (with_reducible first | exact HK.out | apply KeepBut.set_ | apply keep_drewN | apply keep_drew | apply keep_alloc | refine keep_far ?_ GW344.out _ | refine keep_far ?_ GW351.out _ | refine keep_far ?_ GW366.out _) | exact HK.out)))) <| aA (Kd.R_lower ho1 (keep_size (w := w) (g := g) (row := none) (by repeat (first | (with_reducible first | exact HK.out | apply KeepBut.set_ | apply keep_drewN | apply keep_drew | apply keep_alloc | refine keep_far ?_ GW344.out _ | refine keep_far ?_ GW351.out _ | refine keep_far ?_ GW366.out _) | exact HK.out)))) <| aA (IsS97.below (by repeat (first | (with_reducible first | exact HI0.out | apply IsS97.alloc | apply IsS97.drewN | apply IsS97.drew | apply IsS97.set_1 | apply IsS97.set_2 | refine IsS97.far ?_ NB0_344.out _ | refine IsS97.far ?_ NB0_351.out _ | refine IsS97.far ?_ NB0_366.out _) | exact HI0.out)) hb) <| aA (nBB BK344.out hb) <| aA (nBB BK351.out hb) <| aA (nBB BK366.out hb) <| aA (KeepBut.trans (by repeat (first | (with_reducible first | exact HK.out | apply KeepBut.set_ | apply keep_drewN | apply keep_drew | apply keep_alloc | refine keep_far ?_ GW344.out _ | refine keep_far ?_ GW351.out _ | refine keep_far ?_ GW366.out _) | exact HK.out)) (KeepBut.of_below hb g none) (.inl rfl)) <| aM (below_step (by repeat (first | (with_reducible first | exact HB.out | apply below_alloc | apply pw_below_drewN | apply below_drew1 | refine below_set ?_ (IsS97.ge HI0.out) | refine below_set ?_ GE344.out | refine below_set ?_ GE351.out | refine below_set ?_ GE366.out) | exact HB.out)) hb); clear HO355 HI0 BK344 BK351 BK366 HK HB; obtain ⟨HO355, HO362, HO365, HI0, BK344, BK351, BK366, HK, HB⟩ := n_; (try clear hb); (try clear hb2); (try clear hk); (try clear hi); (try clear ho0); (try clear ho1)
       refine hK.out _ _ ⟨(blk_cell BK351.out 0).trans rfl, (blk_cell BK351.out 1).trans rfl, (blk_cell BK351.out 2).trans rfl⟩ (fun hHeld => ?_)
       clear hK K
       refine norm_ (a' := ?_) ?_ ?_
       rotate_left
       · show Act.put _ (some 24) _ = _
         simp only [Act.put, List.setIfInBounds_toArray, List.set_cons_zero, List.set_cons_succ, i64_w, i32_w]
         rfl
       refine pU 9 (some 15) #[T,T,T,T,T,T,T,T,T,T,F,F,T,F,F] rfl rfl HT_.out ?_
       refine pU 10 (some 25) #[T,T,T,T,T,T,T,T,T,T,T,F,T,F,F] rfl rfl HT_.out ?_
       refine pU 11 (some 26) #[T,T,T,T,T,T,T,T,T,T,T,T,T,F,F] rfl rfl HT_.out ?_
       exact norm_ (by simp only [putAll, Act.put, List.setIfInBounds_toArray, List.set_cons_zero, List.set_cons_succ]) (hCont (.slice Ao19 t353.length co19, v361, v364, gb366) _ ⟨hHeld, (nR HO355.out), (nR HO362.out), (nR HO365.out), (nB BK344.out), (nB BK351.out), (nB BK366.out), GW366.out, GE366.out, NB0_366.out, NB366_0.out, NB344_366.out, NB366_344.out, NB351_366.out, NB366_351.out, (by repeat (first | (with_reducible first | exact HI0.out | apply IsS97.alloc | apply IsS97.drewN | apply IsS97.drew | apply IsS97.set_1 | apply IsS97.set_2 | refine IsS97.far ?_ NB0_344.out _ | refine IsS97.far ?_ NB0_351.out _ | refine IsS97.far ?_ NB0_366.out _) | exact HI0.out)), (by repeat (first | (with_reducible first | exact HK.out | apply KeepBut.set_ | apply keep_drewN | apply keep_drew | apply keep_alloc | refine keep_far ?_ GW344.out _ | refine keep_far ?_ GW351.out _ | refine keep_far ?_ GW366.out _) | exact HK.out)), (by repeat (first | (with_reducible first | exact HB.out | apply below_alloc | apply pw_below_drewN | apply below_drew1 | refine below_set ?_ (IsS97.ge HI0.out) | refine below_set ?_ GE344.out | refine below_set ?_ GE351.out | refine below_set ?_ GE366.out) | exact HB.out))⟩)
   · skip
     refine box_step ?hg (N := 6) ?hd (cs := #[.int .i64 0, .int .i64 0, .slice none 0 0]) (t := 29) ?hr ?_; (case hd => rfl); (case hg => rfl); (case hr => first | (go_simp; done) | (go_simp; rfl))
     intro gb366 hg w17 hbox hb
     have n_ := aA (IsS97.below (by repeat (first | (with_reducible first | exact HI0.out | apply IsS97.alloc | apply IsS97.drewN | apply IsS97.drew | apply IsS97.set_1 | apply IsS97.set_2 | refine IsS97.far ?_ NB0_344.out _ | refine IsS97.far ?_ NB0_351.out _) | exact HI0.out)) hb) <| aA (nBB BK344.out hb) <| aA (nBB BK351.out hb) <| aA (KeepBut.trans (by repeat (first | (with_reducible first | exact HK.out | apply KeepBut.set_ | apply keep_drewN | apply keep_drew | apply keep_alloc | refine keep_far ?_ GW344.out _ | refine keep_far ?_ GW351.out _) | exact HK.out)) (KeepBut.of_below hb g none) (.inl rfl)) <| aA (below_step (by repeat (first | (with_reducible first | exact HB.out | apply below_alloc | apply pw_below_drewN | apply below_drew1 | refine below_set ?_ (IsS97.ge HI0.out) | refine below_set ?_ GE344.out | refine below_set ?_ GE351.out) | exact HB.out)) hb) <| aA (hbox) <| aA (by rw [hg]; exact (keep_size (w := w) (g := g) (row := none) (by repeat (first | (with_reducible first | exact HK.out | apply KeepBut.set_ | apply keep_drewN | apply keep_drew | apply keep_alloc | refine keep_far ?_ GW344.out _ | refine keep_far ?_ GW351.out _) | exact HK.out))) : w.heap.size ≤ gb366) <| aA (Nat.le_trans HW0.out (by rw [hg]; exact (keep_size (w := w) (g := g) (row := none) (by repeat (first | (with_reducible first | exact HK.out | apply KeepBut.set_ | apply keep_drewN | apply keep_drew | apply keep_alloc | refine keep_far ?_ GW344.out _ | refine keep_far ?_ GW351.out _) | exact HK.out))) : w.heap.size ≤ gb366) : w0.heap.size ≤ gb366) <| aA (nBL BK344.out hg) <| aA (by rw [hg]; exact Nat.ne_of_gt (blk_lt (g := gb344) (o := .cells #[.int .i64 0, .int .i64 0, .slice none 0 0] 29 (0, 0)) (nB BK344.out)) : gb366 ≠ gb344) <| aA (nBL BK351.out hg) <| aA (by rw [hg]; exact Nat.ne_of_gt (blk_lt (g := gb351) (o := .cells #[.int .i64 (wrap64 (1 + t345)), .int .i64 (wrap64 (1 + t348)), .slice none 0 0] 29 (0, 0)) (nB BK351.out)) : gb366 ≠ gb351) <| aA (by rw [hg]; exact Nat.ne_of_lt (IsS97.lt (show IsS97 w0 _ g s0_0 t349 t350 from by repeat (first | (with_reducible first | exact HI0.out | apply IsS97.alloc | apply IsS97.drewN | apply IsS97.drew | apply IsS97.set_1 | apply IsS97.set_2 | refine IsS97.far ?_ NB0_344.out _ | refine IsS97.far ?_ NB0_351.out _) | exact HI0.out))) : g ≠ gb366) <| aM (by rw [hg]; exact Nat.ne_of_gt (IsS97.lt (show IsS97 w0 _ g s0_0 t349 t350 from by repeat (first | (with_reducible first | exact HI0.out | apply IsS97.alloc | apply IsS97.drewN | apply IsS97.drew | apply IsS97.set_1 | apply IsS97.set_2 | refine IsS97.far ?_ NB0_344.out _ | refine IsS97.far ?_ NB0_351.out _) | exact HI0.out))) : gb366 ≠ g); clear HI0 BK344 BK351 HK HB; obtain ⟨HI0, BK344, BK351, HK, HB, BK366, GW366, GE366, NB344_366, NB366_344, NB351_366, NB366_351, NB0_366, NB366_0⟩ := n_; clear hb hbox hg
     refine hK.out _ _ ⟨(blk_cell BK351.out 0).trans rfl, (blk_cell BK351.out 1).trans rfl, (blk_cell BK351.out 2).trans rfl⟩ (fun hHeld => ?_)
     clear hK K
     refine norm_ (a' := ?_) ?_ ?_
     rotate_left
     · show Act.put _ (some 6) _ = _
       simp only [Act.put, List.setIfInBounds_toArray, List.set_cons_zero, List.set_cons_succ, i64_w, i32_w]
       rfl
     refine one_ (i := 3) (N := some 19) #[T,T,T,T,F,T,T,F,F,F,F,F,T,F,F] rfl rfl (one_of HT_.out (by kernel_rfl)) (by decide) (fun K hK => ?_)
     refine goes_ Try.func66 (by kernel_rfl) rfl #[.slice A1 l1.length c1, .int .i64 16] (by rfl) rfl rfl (by (try simp only [List.map_toArray, List.map_cons, List.map_nil]); first | done | rfl | (simp only [List.length_drop, List.length_take]; rfl)) ?_
     with_reducible refine (spec_l01Size.calls _ _ l1 16 t352 _ ?side1 ?side2 A5.out).mono ?_
     (case side1 => exact Kd.C_keep 0 HR1.out (by repeat (first | (with_reducible first | exact HK.out | apply KeepBut.set_ | apply keep_drewN | apply keep_drew | apply keep_alloc | refine keep_far ?_ GW344.out _ | refine keep_far ?_ GW351.out _ | refine keep_far ?_ GW366.out _) | exact HK.out)) hf1)
     (case side2 => exact HC1.out)
     rintro e w' ⟨rfl, ⟨nd, rfl⟩⟩
     refine ⟨_, rfl, ?_⟩
     refine hK.out _ _ ⟨(blk_cell BK351.out 0).trans rfl, (blk_cell BK351.out 1).trans rfl, (blk_cell BK351.out 2).trans rfl⟩ (fun hHeld => ?_)
     clear hK K
     refine norm_ (a' := ?_) ?_ ?_
     rotate_left
     · show Act.put _ (some 19) _ = _
       simp only [Act.put, List.setIfInBounds_toArray, List.set_cons_zero, List.set_cons_succ, i64_w, i32_w]
       rfl
     refine pU 4 (some 20) #[T,T,T,T,T,T,T,F,F,F,F,F,T,F,F] rfl rfl HT_.out ?_
     refine one_ (i := 7) (N := some 23) #[T,T,T,T,T,T,T,T,F,F,F,F,T,F,F] rfl rfl (one_of HT_.out (by kernel_rfl)) (by decide) (fun K hK => ?_)
     refine goes_ Try.func65 (by kernel_rfl) rfl #[.pointer (some ⟨g, 0, none⟩), .int .i64 (wrap64 (2 + t352)), .int .i64 (wrap64 (1 + t348))] (by rfl) rfl rfl (by (try simp only [List.map_toArray, List.map_cons, List.map_nil]); first | done | rfl | (simp only [List.length_drop, List.length_take]; rfl)) ?_
     with_reducible refine (spec_l14DrawSales.calls k g s0_0 t349 t350 (wrap64 (2 + t352)) (wrap64 (1 + t348)) t353 t356 t357 w0 _ ?side1 ?side2 A6.out).mono ?_
     (case side1 => repeat (first | (with_reducible first | exact HI0.out | apply IsS97.alloc | apply IsS97.drewN | apply IsS97.drew | apply IsS97.set_1 | apply IsS97.set_2 | refine IsS97.far ?_ NB0_344.out _ | refine IsS97.far ?_ NB0_351.out _ | refine IsS97.far ?_ NB0_366.out _) | exact HI0.out))
     (case side2 => repeat (first | (with_reducible first | exact HB.out | apply below_alloc | apply pw_below_drewN | apply below_drew1 | refine below_set ?_ (IsS97.ge HI0.out) | refine below_set ?_ GE344.out | refine below_set ?_ GE351.out | refine below_set ?_ GE366.out) | exact HB.out))
     rintro e w18 ⟨v354, rfl, ho0, hi, hb, hk⟩
     refine ⟨_, rfl, ?_⟩
     have n_ := aA (KeepBut.blk hk (g' := gb344) (o := .cells #[.int .i64 0, .int .i64 0, .slice none 0 0] 29 (0, 0)) (nB BK344.out) NB344_0.out (by simp)) <| aA (KeepBut.blk hk (g' := gb351) (o := .cells #[.int .i64 (wrap64 (1 + t345)), .int .i64 (wrap64 (1 + t348)), .slice none 0 0] 29 (0, 0)) (nB BK351.out) NB351_0.out (by simp)) <| aA (KeepBut.blk hk (g' := gb366) (o := .cells #[.int .i64 0, .int .i64 0, .slice none 0 0] 29 (0, 0)) (nB BK366.out) NB366_0.out (by simp)) <| aA (Kd.R_lower ho0 (keep_size (w := w) (g := g) (row := none) (by repeat (first | (with_reducible first | exact HK.out | apply KeepBut.set_ | apply keep_drewN | apply keep_drew | apply keep_alloc | refine keep_far ?_ GW344.out _ | refine keep_far ?_ GW351.out _ | refine keep_far ?_ GW366.out _) | exact HK.out)))) <| aA (KeepBut.trans (by repeat (first | (with_reducible first | exact HK.out | apply KeepBut.set_ | apply keep_drewN | apply keep_drew | apply keep_alloc | refine keep_far ?_ GW344.out _ | refine keep_far ?_ GW351.out _ | refine keep_far ?_ GW366.out _) | exact HK.out)) hk (.inl rfl)) <| aA (hb) <| aM (hi); clear BK344 BK351 BK366 HK HB HI0; obtain ⟨BK344, BK351, BK366, HO355, HK, HB, HI0⟩ := n_; (try clear hb); (try clear hb2); (try clear hk); (try clear hi); (try clear ho0)
     obtain ⟨Ao19, co19, eo19⟩ := Kd.R_slice HO355.out
     (first | subst eo19 | (injection eo19 with f1_ f2_ f3_; have f4_ := f1_.symm; have f5_ := f3_.symm; clear f1_ f2_ f3_; subst f4_; subst f5_))
     refine hK.out _ _ ⟨(blk_cell BK351.out 0).trans rfl, (blk_cell BK351.out 1).trans rfl, (blk_cell BK351.out 2).trans rfl⟩ (fun hHeld => ?_)
     clear hK K
     refine norm_ (a' := ?_) ?_ ?_
     rotate_left
     · show Act.put _ (some 23) _ = _
       simp only [Act.put, List.setIfInBounds_toArray, List.set_cons_zero, List.set_cons_succ, i64_w, i32_w]
       rfl
     refine one_ (i := 8) (N := some 24) #[T,T,T,T,T,T,T,T,T,F,F,F,T,F,F] rfl rfl (one_of HT_.out (by kernel_rfl)) (by decide) (fun K hK => ?_)
     refine goes_ Try.func40 (by kernel_rfl) rfl #[.agg #[.int .i64 (wrap64 (1 + t345)), .int .i64 (wrap64 (1 + t348)), .slice none 0 0], .slice Ao19 t353.length co19] (by rfl) rfl rfl (by (try simp only [List.map_toArray, List.map_cons, List.map_nil]); first | done | rfl | (simp only [List.length_drop, List.length_take]; rfl)) ?_
     refine (spec_PlaySales.calls k (wrap64 (1 + t345)) (wrap64 (1 + t348)) _ _ ([] : List (S66)) _ _ t353 t358 t359 t360 t363 _ ?side1 ?side2 ?side3 ?side4 A7.out).mono ?_
     (case side1 => exact Kd.C_nil _ _)
     (case side2 => exact Nat.le_refl _)
     (case side3 => repeat (first | exact (Kd.R_reads' HO355.out).2.2 | (with_reducible refine Kd.C_alloc ?_ _) | (with_reducible refine Kd.C_drewN ?_ _) | (with_reducible refine Kd.C_drew ?_)))
     (case side4 => exact (Kd.R_reads' HO355.out).2.1)
     rintro e w20 ⟨v361, v364, rfl, ho0, ho1, hb⟩
     refine ⟨_, rfl, ?_⟩
     have n_ := aA (Kd.R_below (nR HO355.out) hb) <| aA (Kd.R_lower ho0 (keep_size (w := w) (g := g) (row := none) (by repeat (first | (with_reducible first | exact HK.out | apply KeepBut.set_ | apply keep_drewN | apply keep_drew | apply keep_alloc | refine keep_far ?_ GW344.out _ | refine keep_far ?_ GW351.out _ | refine keep_far ?_ GW366.out _) | exact HK.out)))) <| aA (Kd.R_lower ho1 (keep_size (w := w) (g := g) (row := none) (by repeat (first | (with_reducible first | exact HK.out | apply KeepBut.set_ | apply keep_drewN | apply keep_drew | apply keep_alloc | refine keep_far ?_ GW344.out _ | refine keep_far ?_ GW351.out _ | refine keep_far ?_ GW366.out _) | exact HK.out)))) <| aA (IsS97.below (by repeat (first | (with_reducible first | exact HI0.out | apply IsS97.alloc | apply IsS97.drewN | apply IsS97.drew | apply IsS97.set_1 | apply IsS97.set_2 | refine IsS97.far ?_ NB0_344.out _ | refine IsS97.far ?_ NB0_351.out _ | refine IsS97.far ?_ NB0_366.out _) | exact HI0.out)) hb) <| aA (nBB BK344.out hb) <| aA (nBB BK351.out hb) <| aA (nBB BK366.out hb) <| aA (KeepBut.trans (by repeat (first | (with_reducible first | exact HK.out | apply KeepBut.set_ | apply keep_drewN | apply keep_drew | apply keep_alloc | refine keep_far ?_ GW344.out _ | refine keep_far ?_ GW351.out _ | refine keep_far ?_ GW366.out _) | exact HK.out)) (KeepBut.of_below hb g none) (.inl rfl)) <| aM (below_step (by repeat (first | (with_reducible first | exact HB.out | apply below_alloc | apply pw_below_drewN | apply below_drew1 | refine below_set ?_ (IsS97.ge HI0.out) | refine below_set ?_ GE344.out | refine below_set ?_ GE351.out | refine below_set ?_ GE366.out) | exact HB.out)) hb); clear HO355 HI0 BK344 BK351 BK366 HK HB; obtain ⟨HO355, HO362, HO365, HI0, BK344, BK351, BK366, HK, HB⟩ := n_; (try clear hb); (try clear hb2); (try clear hk); (try clear hi); (try clear ho0); (try clear ho1)
     refine hK.out _ _ ⟨(blk_cell BK351.out 0).trans rfl, (blk_cell BK351.out 1).trans rfl, (blk_cell BK351.out 2).trans rfl⟩ (fun hHeld => ?_)
     clear hK K
     refine norm_ (a' := ?_) ?_ ?_
     rotate_left
     · show Act.put _ (some 24) _ = _
       simp only [Act.put, List.setIfInBounds_toArray, List.set_cons_zero, List.set_cons_succ, i64_w, i32_w]
       rfl
     refine pU 9 (some 15) #[T,T,T,T,T,T,T,T,T,T,F,F,T,F,F] rfl rfl HT_.out ?_
     refine pU 10 (some 25) #[T,T,T,T,T,T,T,T,T,T,T,F,T,F,F] rfl rfl HT_.out ?_
     refine pU 11 (some 26) #[T,T,T,T,T,T,T,T,T,T,T,T,T,F,F] rfl rfl HT_.out ?_
     exact norm_ (by simp only [putAll, Act.put, List.setIfInBounds_toArray, List.set_cons_zero, List.set_cons_succ]) (hCont (.slice Ao19 t353.length co19, v361, v364, gb366) _ ⟨hHeld, (nR HO355.out), (nR HO362.out), (nR HO365.out), (nB BK344.out), (nB BK351.out), (nB BK366.out), GW366.out, GE366.out, NB0_366.out, NB366_0.out, NB344_366.out, NB366_344.out, NB351_366.out, NB366_351.out, (by repeat (first | (with_reducible first | exact HI0.out | apply IsS97.alloc | apply IsS97.drewN | apply IsS97.drew | apply IsS97.set_1 | apply IsS97.set_2 | refine IsS97.far ?_ NB0_344.out _ | refine IsS97.far ?_ NB0_351.out _ | refine IsS97.far ?_ NB0_366.out _) | exact HI0.out)), (by repeat (first | (with_reducible first | exact HK.out | apply KeepBut.set_ | apply keep_drewN | apply keep_drew | apply keep_alloc | refine keep_far ?_ GW344.out _ | refine keep_far ?_ GW351.out _ | refine keep_far ?_ GW366.out _) | exact HK.out)), (by repeat (first | (with_reducible first | exact HB.out | apply below_alloc | apply pw_below_drewN | apply below_drew1 | refine below_set ?_ (IsS97.ge HI0.out) | refine below_set ?_ GE344.out | refine below_set ?_ GE351.out | refine below_set ?_ GE366.out) | exact HB.out))⟩)
 rintro ⟨v354, v361, v364, gb366⟩ w21 ⟨hS_, h0_, h1_, h2_, h3_, h4_, h5_, h6_, h7_, h8_, h9_, h10_, h11_, h12_, h13_, h14_, h15_, h16_⟩
 have n0_ : Aside0 (Kd.R k56 56 w21 w.heap.size (fun _ => True) v354 t353) := ⟨h0_⟩
 have n1_ : Aside0 (Kd.R k66 66 w21 w.heap.size (fun _ => True) v361 t360) := ⟨h1_⟩
 have n2_ : Aside0 (Kd.R (Kd.int .i64) 3 w21 w.heap.size (fun _ => True) v364 t363) := ⟨h2_⟩
 have n3_ : Aside0 (w21.heap[gb344]? = some (.cells #[.int .i64 0, .int .i64 0, .slice none 0 0] 29 (0, 0))) := ⟨h3_⟩
 have n4_ : Aside0 (w21.heap[gb351]? = some (.cells #[.int .i64 (wrap64 (1 + t345)), .int .i64 (wrap64 (1 + t348)), .slice none 0 0] 29 (0, 0))) := ⟨h4_⟩
 have n5_ : Aside0 (w21.heap[gb366]? = some (.cells #[.int .i64 0, .int .i64 0, .slice none 0 0] 29 (0, 0))) := ⟨h5_⟩
 have n6_ : Aside0 (w.heap.size ≤ gb366) := ⟨h6_⟩
 have n7_ : Aside0 (w0.heap.size ≤ gb366) := ⟨h7_⟩
 have n8_ : Aside0 (g ≠ gb366) := ⟨h8_⟩
 have n9_ : Aside0 (gb366 ≠ g) := ⟨h9_⟩
 have n10_ : Aside0 (gb344 ≠ gb366) := ⟨h10_⟩
 have n11_ : Aside0 (gb366 ≠ gb344) := ⟨h11_⟩
 have n12_ : Aside0 (gb351 ≠ gb366) := ⟨h12_⟩
 have n13_ : Aside0 (gb366 ≠ gb351) := ⟨h13_⟩
 have n14_ : Aside0 (IsS97 w0 w21 g s0_0 t356 t357) := ⟨h14_⟩
 have n15_ : Aside0 (KeepBut w w21 g none) := ⟨h15_⟩
 have n16_ : Aside0 (Below w0.heap.size w0 w21) := ⟨h16_⟩
 clear BK344; clear BK351; clear HI0; clear HK; clear HB; clear h0_ h1_ h2_ h3_ h4_ h5_ h6_ h7_ h8_ h9_ h10_ h11_ h12_ h13_ h14_ h15_ h16_; have HO355 := n0_; have HO362 := n1_; have HO365 := n2_; have BK344 := n3_; have BK351 := n4_; have BK366 := n5_; have GW366 := n6_; have GE366 := n7_; have NB0_366 := n8_; have NB366_0 := n9_; have NB344_366 := n10_; have NB366_344 := n11_; have NB351_366 := n12_; have NB366_351 := n13_; have HI0 := n14_; have HK := n15_; have HB := n16_; clear n0_ n1_ n2_ n3_ n4_ n5_ n6_ n7_ n8_ n9_ n10_ n11_ n12_ n13_ n14_ n15_ n16_
 have hHeld : w21.cell? ⟨gb351, 0, none⟩ = some (.int .i64 (wrap64 (1 + t345))) ∧ w21.cell? ⟨gb351, 1, none⟩ = some (.int .i64 (wrap64 (1 + t348))) ∧ w21.cell? ⟨gb351, 2, none⟩ = some (.slice none 0 0) := hS_
 obtain ⟨Ao24, co24, eo24⟩ := Kd.R_slice HO362.out
 (first | subst eo24 | (injection eo24 with f1_ f2_ f3_; have f4_ := f1_.symm; have f5_ := f3_.symm; clear f1_ f2_ f3_; subst f4_; subst f5_))
 refine norm_ (a' := ?_) ?_ ?_
 rotate_left
 · simp only [putAll, Act.put, List.setIfInBounds_toArray, List.set_cons_zero, List.set_cons_succ]
   rfl
 refine one_ (i := 13) (N := none) #[T,T,T,T,T,T,T,T,T,T,T,T,T,T,F] rfl rfl (one_of HT_.out (by kernel_rfl)) (by decide) (fun K hK => ?_)
 have hs22 : w21.cell? ⟨gb366, 0, none⟩ = some (.int .i64 0) := (blk_cell BK366.out 0).trans rfl
 have hfs22 := blk_frozen BK366.out 0
 have hns22_0 := NB344_366.out; have hns22_1 := NB351_366.out; have hms22_0 := NB366_344.out; have hms22_1 := NB366_351.out
 have hs23 : w21.cell? ⟨gb366, 1, none⟩ = some (.int .i64 0) := (blk_cell BK366.out 1).trans rfl
 have hfs23 := blk_frozen BK366.out 1
 have hns23_0 := NB344_366.out; have hns23_1 := NB351_366.out; have hms23_0 := NB366_344.out; have hms23_1 := NB366_351.out
 have hs25 : w21.cell? ⟨gb366, 2, none⟩ = some (.slice none 0 0) := (blk_cell BK366.out 2).trans rfl
 have hfs25 := blk_frozen BK366.out 2
 have hns25_0 := NB344_366.out; have hns25_1 := NB351_366.out; have hms25_0 := NB366_344.out; have hms25_1 := NB366_351.out
 refine skip_ (w1 := ?_) (by rfl) rfl ?_ ?_
 rotate_left
 · go_simp; rfl
 refine hK.out _ _ ⟨((cell_far (p := ⟨gb366, _, none⟩) NB351_366.out _).trans (((cell_far (p := ⟨gb366, _, none⟩) NB351_366.out _).trans (((cell_far (p := ⟨gb366, _, none⟩) NB351_366.out _).trans (hHeld.1)))))), ((cell_far (p := ⟨gb366, _, none⟩) NB351_366.out _).trans (((cell_far (p := ⟨gb366, _, none⟩) NB351_366.out _).trans (((cell_far (p := ⟨gb366, _, none⟩) NB351_366.out _).trans (hHeld.2.1)))))), ((cell_far (p := ⟨gb366, _, none⟩) NB351_366.out _).trans (((cell_far (p := ⟨gb366, _, none⟩) NB351_366.out _).trans (((cell_far (p := ⟨gb366, _, none⟩) NB351_366.out _).trans (hHeld.2.2))))))⟩ (fun hHeld => ?_)
 clear hK K
 refine pU 14 (some 7) #[T,T,T,T,T,T,T,T,T,T,T,T,T,T,T] rfl rfl HT_.out ?_
 refine done_ (done_of HT_.out (by kernel_rfl)) ?_
 have hnb26 := NB366_344.out; have hnc26 := NB344_366.out; have hnb27 := NB366_351.out; have hnc27 := NB351_366.out; have hnb28 := NB366_0.out; have hnc28 := NB0_366.out
 obtain ⟨hcz29_0, hcz29_1, hcz29_2, hfz29_0, hfz29_1, hfz29_2⟩ := nK3 BK366.out
 have hnb30 := NB344_0.out; have hnc30 := NB0_344.out
 obtain ⟨hcz31_0, hcz31_1, hcz31_2, hfz31_0, hfz31_1, hfz31_2⟩ := nK3 BK344.out
 try go_wp2
 refine bodyPost_ret (results_cell_row rfl _ _ gb344 29 #[.int .i64 t358, .int .i64 t359, .slice Ao24 t360.length co24] (0, 0) _ rfl (by refine nE ?_; refine blk_put (cs := #[.int .i64 t358, .int .i64 t359, .slice none 0 0]) ?_ 2 _ rfl; refine nE ?_; refine blk_put (cs := #[.int .i64 t358, .int .i64 0, .slice none 0 0]) ?_ 1 _ rfl; refine nE ?_; refine blk_put (cs := #[.int .i64 0, .int .i64 0, .slice none 0 0]) ?_ 0 _ rfl; refine nE ?_; refine blk_far ?_ NB344_366.out _; refine nE ?_; refine blk_far ?_ NB344_366.out _; refine nE ?_; refine blk_far ?_ NB344_366.out _; refine nE ?_; exact BK344.out) Try.underlying29 rfl (by kernel_rfl)) rfl ?_
 exact ⟨_, by first | rfl | (simp [errW_none, errW_some] <;> rfl) | (simp [*, errW_none, errW_some] <;> first | rfl | (simp [wrap64]; done)), by (with_reducible repeat (first | apply Kd.R_alloc | apply Kd.R_drewN | apply Kd.R_drew)); exact Kd.R_mono (Kd.R_far (p := ⟨gb344, 2, none⟩) (Kd.R_far (p := ⟨gb344, 1, none⟩) (Kd.R_far (p := ⟨gb344, 0, none⟩) (Kd.R_far (p := ⟨gb366, 2, none⟩) (Kd.R_far (p := ⟨gb366, 1, none⟩) (Kd.R_far (p := ⟨gb366, 0, none⟩) (Kd.R_types (Kd.R_types HO362.out BK366.out (by decide)) BK344.out (by decide)) (fun _ hk => hk.1.2) (.int .i64 t358)) (fun _ hk => hk.1.2) (.int .i64 t359)) (fun _ hk => hk.1.2) (.slice Ao24 t360.length co24)) (fun _ hk => hk.2) (.int .i64 t358)) (fun _ hk => hk.2) (.int .i64 t359)) (fun _ hk => hk.2) (.slice Ao24 t360.length co24)) (fun _ hk => trivial), by repeat (first | (with_reducible first | exact HI0.out | apply IsS97.alloc | apply IsS97.drewN | apply IsS97.drew | apply IsS97.set_1 | apply IsS97.set_2 | refine IsS97.far ?_ NB0_344.out _ | refine IsS97.far ?_ NB0_351.out _ | refine IsS97.far ?_ NB0_366.out _) | exact HI0.out), by repeat (first | (with_reducible first | exact HB.out | apply below_alloc | apply pw_below_drewN | apply below_drew1 | refine below_set ?_ (IsS97.ge HI0.out) | refine below_set ?_ GE344.out | refine below_set ?_ GE351.out | refine below_set ?_ GE366.out) | exact HB.out), by repeat (first | (with_reducible first | exact HK.out | apply KeepBut.set_ | apply keep_drewN | apply keep_drew | apply keep_alloc | refine keep_far ?_ GW344.out _ | refine keep_far ?_ GW351.out _ | refine keep_far ?_ GW366.out _) | exact HK.out)⟩
end Go.Proofs.Ytklikbjlfaednaa.P

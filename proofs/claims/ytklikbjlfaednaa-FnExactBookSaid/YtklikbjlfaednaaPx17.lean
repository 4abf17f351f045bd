/- Contracts of the functions of the program, each one with its plain Lean function; written by a program of the session out of the translation. -/
import Derived.Test.YtklikbjlfaednaaNb
import Derived.Test.YtklikbjlfaednaaPx0
import Derived.Test.YtklikbjlfaednaaPx10
import Derived.Test.YtklikbjlfaednaaPx12
import Derived.Test.YtklikbjlfaednaaPx14
import Derived.Test.YtklikbjlfaednaaPx15
import Derived.Test.YtklikbjlfaednaaPx16
namespace Go.Proofs.Ytklikbjlfaednaa.P
open Go.RowKit Go.Proofs.YtklikbjlfaednaaW.PrintWords Go.Proofs.YtklikbjlfaednaaW.PrintLast Go.Proofs.YtklikbjlfaednaaW.PrintMore
attribute [local go_sem] max2_int min2_int max_two min_two max_three min_three max_four min_four   -- for this text's walks alone
set_option linter.unusedVariables false
set_option linter.unusedSimpArgs false
/-! ### spec_Book: function 35 -/
theorem spec_Book.mono_l : ∀ k, (∀ y0 y1 y2 y3 y4 y5 y6 y7 y8 y9, LeO (spec_Book.j0 k y0 y1 y2 y3 y4 y5 y6 y7 y8 y9) (spec_Book.j0 (k + 1) y0 y1 y2 y3 y4 y5 y6 y7 y8 y9)) ∧ (∀ y0 y1 y2 y3 y4 y5 y6 y7 y8 y9, LeO (spec_Book.l0 k y0 y1 y2 y3 y4 y5 y6 y7 y8 y9) (spec_Book.l0 (k + 1) y0 y1 y2 y3 y4 y5 y6 y7 y8 y9)) ∧ (∀ y0 y1 y2 y3 y4 y5 y6 y7 y8 y9 y10 y11, LeO (spec_Book.l1 k y0 y1 y2 y3 y4 y5 y6 y7 y8 y9 y10 y11) (spec_Book.l1 (k + 1) y0 y1 y2 y3 y4 y5 y6 y7 y8 y9 y10 y11))
 | 0 => ⟨fun _ _ _ _ _ _ _ _ _ _ r h => by simp [spec_Book.j0] at h, fun _ _ _ _ _ _ _ _ _ _ r h => by simp [spec_Book.l0] at h, fun _ _ _ _ _ _ _ _ _ _ _ _ r h => by simp [spec_Book.l1] at h⟩
 | k + 1 => by
  obtain ⟨ih0, ih1, ih2⟩ := spec_Book.mono_l k
  refine ⟨?_, ?_, ?_⟩
  · intro y0 y1 y2 y3 y4 y5 y6 y7 y8 y9
    unfold spec_Book.j0
    repeat' first
    | (with_reducible exact ih0 _ _ _ _ _ _ _ _ _ _)
    | (with_reducible exact ih1 _ _ _ _ _ _ _ _ _ _)
    | (with_reducible exact ih2 _ _ _ _ _ _ _ _ _ _ _ _)
    | (with_reducible exact spec_FreeSeats.mono _ _ _ _ _ _)
    | (with_reducible exact spec_Hole.mono _ _ _ _ _ _ _)
    | (with_reducible exact spec_l14Asked.mono _ _ _ _ _ _)
    | (with_reducible exact spec_l14Held.mono _ _ _ _ _ _ _ _ _)
    | (with_reducible exact spec_l14Same.mono _ _ _ _)
    | (with_reducible exact LeO.refl _)
    | (with_reducible exact LeO.none _)
    | (with_reducible refine LeO.ite ?_ ?_)
    | (with_reducible refine LeO.bind ?_ (fun _ => ?_))
    | exact ih0 _ _ _ _ _ _ _ _ _ _
    | exact ih1 _ _ _ _ _ _ _ _ _ _
    | exact ih2 _ _ _ _ _ _ _ _ _ _ _ _
    | exact spec_FreeSeats.mono _ _ _ _ _ _
    | exact spec_Hole.mono _ _ _ _ _ _ _
    | exact spec_l14Asked.mono _ _ _ _ _ _
    | exact spec_l14Held.mono _ _ _ _ _ _ _ _ _
    | exact spec_l14Same.mono _ _ _ _
    | exact LeO.none _
    | refine LeO.ite ?_ ?_
    | refine LeO.bind ?_ (fun _ => ?_)
  · intro y0 y1 y2 y3 y4 y5 y6 y7 y8 y9
    unfold spec_Book.l0
    repeat' first
    | (with_reducible exact ih0 _ _ _ _ _ _ _ _ _ _)
    | (with_reducible exact ih1 _ _ _ _ _ _ _ _ _ _)
    | (with_reducible exact ih2 _ _ _ _ _ _ _ _ _ _ _ _)
    | (with_reducible exact spec_FreeSeats.mono _ _ _ _ _ _)
    | (with_reducible exact spec_Hole.mono _ _ _ _ _ _ _)
    | (with_reducible exact spec_l14Asked.mono _ _ _ _ _ _)
    | (with_reducible exact spec_l14Held.mono _ _ _ _ _ _ _ _ _)
    | (with_reducible exact spec_l14Same.mono _ _ _ _)
    | (with_reducible exact LeO.refl _)
    | (with_reducible exact LeO.none _)
    | (with_reducible refine LeO.ite ?_ ?_)
    | (with_reducible refine LeO.bind ?_ (fun _ => ?_))
    | exact ih0 _ _ _ _ _ _ _ _ _ _
    | exact ih1 _ _ _ _ _ _ _ _ _ _
    | exact ih2 _ _ _ _ _ _ _ _ _ _ _ _
    | exact spec_FreeSeats.mono _ _ _ _ _ _
    | exact spec_Hole.mono _ _ _ _ _ _ _
    | exact spec_l14Asked.mono _ _ _ _ _ _
    | exact spec_l14Held.mono _ _ _ _ _ _ _ _ _
    | exact spec_l14Same.mono _ _ _ _
    | exact LeO.none _
    | refine LeO.ite ?_ ?_
    | refine LeO.bind ?_ (fun _ => ?_)
  · intro y0 y1 y2 y3 y4 y5 y6 y7 y8 y9 y10 y11
    unfold spec_Book.l1
    repeat' first
    | (with_reducible exact ih0 _ _ _ _ _ _ _ _ _ _)
    | (with_reducible exact ih1 _ _ _ _ _ _ _ _ _ _)
    | (with_reducible exact ih2 _ _ _ _ _ _ _ _ _ _ _ _)
    | (with_reducible exact spec_FreeSeats.mono _ _ _ _ _ _)
    | (with_reducible exact spec_Hole.mono _ _ _ _ _ _ _)
    | (with_reducible exact spec_l14Asked.mono _ _ _ _ _ _)
    | (with_reducible exact spec_l14Held.mono _ _ _ _ _ _ _ _ _)
    | (with_reducible exact spec_l14Same.mono _ _ _ _)
    | (with_reducible exact LeO.refl _)
    | (with_reducible exact LeO.none _)
    | (with_reducible refine LeO.ite ?_ ?_)
    | (with_reducible refine LeO.bind ?_ (fun _ => ?_))
    | exact ih0 _ _ _ _ _ _ _ _ _ _
    | exact ih1 _ _ _ _ _ _ _ _ _ _
    | exact ih2 _ _ _ _ _ _ _ _ _ _ _ _
    | exact spec_FreeSeats.mono _ _ _ _ _ _
    | exact spec_Hole.mono _ _ _ _ _ _ _
    | exact spec_l14Asked.mono _ _ _ _ _ _
    | exact spec_l14Held.mono _ _ _ _ _ _ _ _ _
    | exact spec_l14Same.mono _ _ _ _
    | exact LeO.none _
    | refine LeO.ite ?_ ?_
    | refine LeO.bind ?_ (fun _ => ?_)
theorem spec_Book.mono : ∀ a0 a1 a2 a3 a4 a5 k, LeO (spec_Book.f k a0 a1 a2 a3 a4 a5) (spec_Book.f (k + 1) a0 a1 a2 a3 a4 a5) := by
 intro a0 a1 a2 a3 a4 a5 k
 obtain ⟨ih0, ih1, ih2⟩ := spec_Book.mono_l k
 unfold spec_Book.f
 repeat' first
  | (with_reducible exact ih0 _ _ _ _ _ _ _ _ _ _)
  | (with_reducible exact ih1 _ _ _ _ _ _ _ _ _ _)
  | (with_reducible exact ih2 _ _ _ _ _ _ _ _ _ _ _ _)
  | (with_reducible exact spec_FreeSeats.mono _ _ _ _ _ _)
  | (with_reducible exact spec_Hole.mono _ _ _ _ _ _ _)
  | (with_reducible exact spec_l14Asked.mono _ _ _ _ _ _)
  | (with_reducible exact spec_l14Held.mono _ _ _ _ _ _ _ _ _)
  | (with_reducible exact spec_l14Same.mono _ _ _ _)
  | (with_reducible exact LeO.refl _)
  | (with_reducible exact LeO.none _)
  | (with_reducible refine LeO.ite ?_ ?_)
  | (with_reducible refine LeO.bind ?_ (fun _ => ?_))
  | exact ih0 _ _ _ _ _ _ _ _ _ _
  | exact ih1 _ _ _ _ _ _ _ _ _ _
  | exact ih2 _ _ _ _ _ _ _ _ _ _ _ _
  | exact spec_FreeSeats.mono _ _ _ _ _ _
  | exact spec_Hole.mono _ _ _ _ _ _ _
  | exact spec_l14Asked.mono _ _ _ _ _ _
  | exact spec_l14Held.mono _ _ _ _ _ _ _ _ _
  | exact spec_l14Same.mono _ _ _ _
  | exact LeO.none _
  | refine LeO.ite ?_ ?_
  | refine LeO.bind ?_ (fun _ => ?_)
def spec_Book.T14 : Bool × List (List Nat × List Nat) := (true, [([], []), ([0], [0]), ([1], [1]), ([2], [2]), ([2], [2]), ([2], [2]), ([4, 5, 2], [2, 4, 5]), ([6, 2], [2, 6]), ([2], [2]), ([2], [2]), ([3, 7, 8, 9, 2, 2], [2, 3, 7, 8, 9]), ([2], [2]), ([2], [2]), ([2], [2]), ([2], [2]), ([11, 12, 13, 14, 10, 2], [2, 11, 12, 13, 14]), ([10, 15, 2], [2, 10, 15]), ([2, 16], [2, 16])])
def spec_Book.B14 : List Nat := [0, 1, 3, 7, 7, 7, 55, 119, 7, 7, 1023, 7, 7, 7, 7, 32767, 65535, 131071]
theorem spec_Book.tab14 : rtab .any (opsOf Try.f35 14) = spec_Book.T14 := by kernel_rfl
theorem spec_Book.bits14 : waitsOk spec_Book.T14.2 spec_Book.B14 = true := by kernel_rfl
set_option maxHeartbeats 8000000 in
set_option maxRecDepth 100000 in
theorem spec_Book.calls (k : Nat) (a0_0 : Int) (a0_1 : Int) (A0_2 : Option Addr) (c0_2 : Nat) (l0_2 : List (S66)) (a1 : Int) (a2 : Int) (a3 : Int) (r1 : Int) (r2 : Int) (r3 : List (S66)) (r4 : Int) (w : World) (hr0_2 : Kd.C k66 w A0_2 l0_2.length l0_2) (hc0_2 : l0_2.length ≤ c0_2) (h : spec_Book.f k a0_0 a0_1 l0_2 a1 a2 a3 = some (r1, r2, r3, r4)) :
 Calls Try.prog 35 #[.agg #[.int .i64 a0_0, .int .i64 a0_1, .slice A0_2 l0_2.length c0_2], .int .i64 a1, .int .i64 a2, .int .i64 a3] w fun e w' => ∃ v2_ : Value, e = .returned (.tuple #[.agg #[.int .i64 r1, .int .i64 r2, v2_], .int .i64 r4]) ∧ Kd.R k66 66 w' w.heap.size (fun _ => True) v2_ r3 ∧ Below w.heap.size w w' := by
 have hu29 := Try.underlying29; have hu66 := Try.underlying66
 have HR0_2 := Aside0.mk hr0_2
 have HC0_2 := Aside0.mk hc0_2
 clear hr0_2 hc0_2
 have HB := Aside0.mk (Below.refl w.heap.size w)
 have H : ((spec_l14Held.f k a0_0 a0_1 l0_2 0 0 0 0 0).bind fun bt212 => ((spec_l14Asked.f k a0_0 a0_1 l0_2 a2 a3).bind fun t218 => (if t218 = true then (if a1 ≤ 0 then (spec_Book.j0 k a1 a2 a3 true a0_0 a0_1 l0_2 bt212.1 bt212.2.1 bt212.2.2) else (spec_Book.j0 k a1 a2 a3 (decide ((l0_2.length : Int) ≥ 200)) a0_0 a0_1 l0_2 bt212.1 bt212.2.1 bt212.2.2)) else (spec_Book.j0 k a1 a2 a3 true a0_0 a0_1 l0_2 bt212.1 bt212.2.1 bt212.2.2)))) = some (r1, r2, r3, r4) := h
 clear h
 replace H := Option.bind_eq_some_iff.mp H
 obtain ⟨⟨t212, t213, t214⟩, A50, H⟩ := H
 replace H : ((spec_l14Asked.f k a0_0 a0_1 l0_2 a2 a3).bind fun t218 => (if t218 = true then (if a1 ≤ 0 then (spec_Book.j0 k a1 a2 a3 true a0_0 a0_1 l0_2 t212 t213 t214) else (spec_Book.j0 k a1 a2 a3 (decide ((l0_2.length : Int) ≥ 200)) a0_0 a0_1 l0_2 t212 t213 t214)) else (spec_Book.j0 k a1 a2 a3 true a0_0 a0_1 l0_2 t212 t213 t214))) = some (r1, r2, r3, r4) := H
 have A5 := Aside0.mk A50
 clear A50
 have HC6 := Aside0.mk H
 clear H
 go_enter Try.func35, Try.ntmps35
 go_upto_region 2 with (first | ((with_reducible refine gate_dst (N := 4) rfl ?_); (try (refine gate_guard (by rfl) ?_; dsimp only)); refine box_event ?hg (N := 4) ?hd (cs := #[.int .i64 a0_0, .int .i64 a0_1, .slice A0_2 l0_2.length c0_2]) (t := 29) ?hr ?_; (case hd => rfl); (case hg => rfl); (case hr => first | (go_simp; done) | (go_simp; rfl)); intro gb210 hg w7 hbox hb; have n0_ := Aside0.mk (below_step (nH HB.out) hb); have n1_ := Aside0.mk (hbox); have n2_ := Aside0.mk ((by rw [hg]; exact (below_size (nH HB.out)) : w.heap.size ≤ gb210)); have n3_ := Aside0.mk ((by rw [hg]; exact (below_size (nH HB.out)) : w.heap.size ≤ gb210)); clear HB; have HB := n0_; have BK210 := n1_; have GW210 := n2_; have GE210 := n3_; clear n0_ n1_ n2_ n3_; clear hb hbox hg) | ((with_reducible refine gate_dst (N := 8) rfl ?_); (try (refine gate_guard (by rfl) ?_; dsimp only)); refine box_event ?hg (N := 8) ?hd (cs := #[.int .i64 0, .int .i64 0, .slice none 0 0]) (t := 29) ?hr ?_; (case hd => rfl); (case hg => rfl); (case hr => first | (go_simp; done) | (go_simp; rfl)); intro gb211 hg w8 hbox hb; have n0_ := Aside0.mk (blk_below (g := gb210) (o := .cells #[.int .i64 a0_0, .int .i64 a0_1, .slice A0_2 l0_2.length c0_2] 29 (0, 0)) (nB BK210.out) hb); have n1_ := Aside0.mk (below_step (nH1 HB.out GE210.out) hb); have n2_ := Aside0.mk (hbox); have n3_ := Aside0.mk ((by rw [hg]; exact (below_size (nH1 HB.out GE210.out)) : w.heap.size ≤ gb211)); have n4_ := Aside0.mk ((by rw [hg]; exact (below_size (nH1 HB.out GE210.out)) : w.heap.size ≤ gb211)); have n5_ := Aside0.mk ((by rw [hg]; exact Nat.ne_of_lt (blk_lt (g := gb210) (o := .cells #[.int .i64 a0_0, .int .i64 a0_1, .slice A0_2 l0_2.length c0_2] 29 (0, 0)) (nB BK210.out)) : gb210 ≠ gb211)); have n6_ := Aside0.mk ((by rw [hg]; exact Nat.ne_of_gt (blk_lt (g := gb210) (o := .cells #[.int .i64 a0_0, .int .i64 a0_1, .slice A0_2 l0_2.length c0_2] 29 (0, 0)) (nB BK210.out)) : gb211 ≠ gb210)); clear BK210; clear HB; have BK210 := n0_; have HB := n1_; have BK211 := n2_; have GW211 := n3_; have GE211 := n4_; have NB210_211 := n5_; have NB211_210 := n6_; clear n0_ n1_ n2_ n3_ n4_ n5_ n6_; clear hb hbox hg; have hnb9 := NB210_211.out; have hnc9 := NB211_210.out; have hcz10_0 : w8.cell? ⟨gb210, 0, none⟩ = some (.int .i64 a0_0) := (blk_cell BK210.out 0).trans rfl; have hcz10_1 : w8.cell? ⟨gb210, 1, none⟩ = some (.int .i64 a0_1) := (blk_cell BK210.out 1).trans rfl; have hcz10_2 : w8.cell? ⟨gb210, 2, none⟩ = some (.slice A0_2 l0_2.length c0_2) := (blk_cell BK210.out 2).trans rfl; have hfz10_0 := blk_frozen BK210.out 0; have hfz10_1 := blk_frozen BK210.out 1; have hfz10_2 := blk_frozen BK210.out 2) | ((with_reducible refine gate_callee (f := 59) rfl ?_); refine goesL_ (some 17) rfl rfl Try.func59 (by kernel_rfl) rfl #[.agg #[.int .i64 a0_0, .int .i64 a0_1, .slice A0_2 l0_2.length c0_2], .int .i64 0, .agg #[.int .i64 0, .int .i64 0, .int .i64 0, .int .i64 0]] rfl (by (try simp only [List.map_toArray, List.map_cons, List.map_nil]); first | done | rfl | (simp only [List.length_drop, List.length_take]; rfl)) ?_; (with_reducible refine (spec_l14Held.calls k a0_0 a0_1 _ _ l0_2 0 0 0 0 0 t212 t213 t214 _ ?side1 ?side2 A5.out).mono ?_); (case side1 => repeat (first | exact (Kd.C_below HR0_2.out HB.out) | (with_reducible refine Kd.C_alloc ?_ _) | (with_reducible refine Kd.C_drewN ?_ _) | (with_reducible refine Kd.C_drew ?_))); (case side2 => exact HC0_2.out); rintro e w11 ⟨v215, rfl, ho0, hb⟩; refine ⟨_, rfl, ?_⟩; have n0_ := Aside0.mk (Kd.R_lower ho0 (below_size (nH2 HB.out GE210.out GE211.out))); have n1_ := Aside0.mk (blk_below (g := gb210) (o := .cells #[.int .i64 a0_0, .int .i64 a0_1, .slice A0_2 l0_2.length c0_2] 29 (0, 0)) (nB BK210.out) hb); have n2_ := Aside0.mk (blk_below (g := gb211) (o := .cells #[.int .i64 0, .int .i64 0, .slice none 0 0] 29 (0, 0)) (nB BK211.out) hb); have n3_ := Aside0.mk (below_step (nH2 HB.out GE210.out GE211.out) hb); clear BK210; clear BK211; clear HB; have HO216 := n0_; have BK210 := n1_; have BK211 := n2_; have HB := n3_; clear n0_ n1_ n2_ n3_; (try clear hb); (try clear hb2); (try clear hk); (try clear hi); (try clear ho0)) | ((with_reducible refine gate_dst (N := 10) rfl ?_); (try (refine gate_guard (by rfl) ?_; dsimp only)); refine box_event ?hg (N := 10) ?hd (cs := #[.int .i64 0, .int .i64 0, .slice none 0 0]) (t := 29) ?hr ?_; (case hd => rfl); (case hg => rfl); (case hr => first | (go_simp; done) | (go_simp; rfl)); intro gb217 hg w12 hbox hb; have n0_ := Aside0.mk (Kd.R_below (nR HO216.out) hb); have n1_ := Aside0.mk (blk_below (g := gb210) (o := .cells #[.int .i64 a0_0, .int .i64 a0_1, .slice A0_2 l0_2.length c0_2] 29 (0, 0)) (nB BK210.out) hb); have n2_ := Aside0.mk (blk_below (g := gb211) (o := .cells #[.int .i64 0, .int .i64 0, .slice none 0 0] 29 (0, 0)) (nB BK211.out) hb); have n3_ := Aside0.mk (below_step (nH2 HB.out GE210.out GE211.out) hb); have n4_ := Aside0.mk (hbox); have n5_ := Aside0.mk ((by rw [hg]; exact (below_size (nH2 HB.out GE210.out GE211.out)) : w.heap.size ≤ gb217)); have n6_ := Aside0.mk ((by rw [hg]; exact (below_size (nH2 HB.out GE210.out GE211.out)) : w.heap.size ≤ gb217)); have n7_ := Aside0.mk ((by rw [hg]; exact Nat.ne_of_lt (blk_lt (g := gb210) (o := .cells #[.int .i64 a0_0, .int .i64 a0_1, .slice A0_2 l0_2.length c0_2] 29 (0, 0)) (nB BK210.out)) : gb210 ≠ gb217)); have n8_ := Aside0.mk ((by rw [hg]; exact Nat.ne_of_gt (blk_lt (g := gb210) (o := .cells #[.int .i64 a0_0, .int .i64 a0_1, .slice A0_2 l0_2.length c0_2] 29 (0, 0)) (nB BK210.out)) : gb217 ≠ gb210)); have n9_ := Aside0.mk ((by rw [hg]; exact Nat.ne_of_lt (blk_lt (g := gb211) (o := .cells #[.int .i64 0, .int .i64 0, .slice none 0 0] 29 (0, 0)) (nB BK211.out)) : gb211 ≠ gb217)); have n10_ := Aside0.mk ((by rw [hg]; exact Nat.ne_of_gt (blk_lt (g := gb211) (o := .cells #[.int .i64 0, .int .i64 0, .slice none 0 0] 29 (0, 0)) (nB BK211.out)) : gb217 ≠ gb211)); clear HO216; clear BK210; clear BK211; clear HB; have HO216 := n0_; have BK210 := n1_; have BK211 := n2_; have HB := n3_; have BK217 := n4_; have GW217 := n5_; have GE217 := n6_; have NB210_217 := n7_; have NB217_210 := n8_; have NB211_217 := n9_; have NB217_211 := n10_; clear n0_ n1_ n2_ n3_ n4_ n5_ n6_ n7_ n8_ n9_ n10_; clear hb hbox hg; have hnb13 := NB217_210.out; have hnc13 := NB210_217.out; have hnb14 := NB217_211.out; have hnc14 := NB211_217.out; have hcz15_0 : w12.cell? ⟨gb217, 0, none⟩ = some (.int .i64 0) := (blk_cell BK217.out 0).trans rfl; have hcz15_1 : w12.cell? ⟨gb217, 1, none⟩ = some (.int .i64 0) := (blk_cell BK217.out 1).trans rfl; have hcz15_2 : w12.cell? ⟨gb217, 2, none⟩ = some (.slice none 0 0) := (blk_cell BK217.out 2).trans rfl; have hfz15_0 := blk_frozen BK217.out 0; have hfz15_1 := blk_frozen BK217.out 1; have hfz15_2 := blk_frozen BK217.out 2; obtain ⟨Ao16, co16, eo16⟩ := Kd.R_slice HO216.out; subst eo16))
 (try simp only [Act.put, List.setIfInBounds_toArray, List.set_cons_zero, List.set_cons_succ])
 go_cut [32] (fun v32 wc => ∃ (kq : Nat) (x32_5 : Bool), v32 = .bool x32_5 ∧ Aside0 (spec_Book.j0 kq a1 a2 a3 x32_5 a0_0 a0_1 l0_2 t212 t213 t214 = some (r1, r2, r3, r4)) ∧ Aside0 (kq ≤ k) ∧ Aside0 (Kd.R k66 66 wc w.heap.size (fun _ => True) (.slice Ao16 t214.length co16) t214) ∧ Aside0 (wc.heap[gb210]? = some (.cells #[.int .i64 a0_0, .int .i64 a0_1, (.slice A0_2 l0_2.length c0_2)] 29 (0, 0))) ∧ Aside0 (wc.heap[gb211]? = some (.cells #[.int .i64 0, .int .i64 0, (.slice none 0 0)] 29 (0, 0))) ∧ Aside0 (wc.heap[gb217]? = some (.cells #[.int .i64 t212, .int .i64 t213, (.slice Ao16 t214.length co16)] 29 (0, 0))) ∧ Aside0 (Below w.heap.size w wc))
 case first =>
  have H := HC6.out; clear HC6
  replace H := Option.bind_eq_some_iff.mp H
  obtain ⟨t218, A170, H⟩ := H
  replace H : (if t218 = true then (if a1 ≤ 0 then (spec_Book.j0 k a1 a2 a3 true a0_0 a0_1 l0_2 t212 t213 t214) else (spec_Book.j0 k a1 a2 a3 (decide ((l0_2.length : Int) ≥ 200)) a0_0 a0_1 l0_2 t212 t213 t214)) else (spec_Book.j0 k a1 a2 a3 true a0_0 a0_1 l0_2 t212 t213 t214)) = some (r1, r2, r3, r4) := H
  have A17 := Aside0.mk A170
  clear A170
  by_cases c18 : t218 = true
  · subst c18
    have H1 : (if a1 ≤ 0 then (spec_Book.j0 k a1 a2 a3 true a0_0 a0_1 l0_2 t212 t213 t214) else (spec_Book.j0 k a1 a2 a3 (decide ((l0_2.length : Int) ≥ 200)) a0_0 a0_1 l0_2 t212 t213 t214)) = some (r1, r2, r3, r4) := by rw [if_pos rfl] at H; exact H
    clear H; have H := H1; clear H1
    by_cases c19 : a1 ≤ 0
    · rw [if_pos c19] at H
      have c19b0 : decide (a1 ≤ 0) = true := decide_eq_true c19
      clear c19
      (first | rw [c19b0] | (simp only [i64_w, i32_w]; rw [c19b0]) | skip)
      have H' := Aside0.mk H
      clear H; have hnb20 := NB210_211.out; have hnc20 := NB211_210.out; have hnb21 := NB210_217.out; have hnc21 := NB217_210.out
      have hcz22_0 : w12.cell? ⟨gb210, 0, none⟩ = some (.int .i64 a0_0) := (blk_cell BK210.out 0).trans rfl
      have hcz22_1 : w12.cell? ⟨gb210, 1, none⟩ = some (.int .i64 a0_1) := (blk_cell BK210.out 1).trans rfl
      have hcz22_2 : w12.cell? ⟨gb210, 2, none⟩ = some (.slice A0_2 l0_2.length c0_2) := (blk_cell BK210.out 2).trans rfl
      have hfz22_0 := blk_frozen BK210.out 0
      have hfz22_1 := blk_frozen BK210.out 1
      have hfz22_2 := blk_frozen BK210.out 2
      go_wp2_with (first | ((with_reducible refine gate_callee (f := 50) rfl ?_); refine goesL_ (some 21) rfl rfl Try.func50 (by kernel_rfl) rfl #[.agg #[.int .i64 a0_0, .int .i64 a0_1, .slice A0_2 l0_2.length c0_2], .int .i64 a2, .int .i64 a3] rfl (by (try simp only [List.map_toArray, List.map_cons, List.map_nil]); first | done | rfl | (simp only [List.length_drop, List.length_take]; rfl)) ?_; (with_reducible refine (spec_l14Asked.calls k a0_0 a0_1 _ _ l0_2 a2 a3 true _ ?side1 ?side2 A17.out).mono ?_); (case side1 => exact Kd.C_below HR0_2.out (nH3 HB.out GE210.out GE211.out GE217.out)); (case side2 => exact HC0_2.out); rintro e w23 ⟨rfl, hb⟩; refine ⟨_, rfl, ?_⟩; have n0_ := Aside0.mk (Kd.R_below (by (with_reducible repeat (first | apply Kd.R_alloc | apply Kd.R_drewN | apply Kd.R_drew)); exact (Kd.R_mono (Kd.R_far (p := ⟨gb217, 2, none⟩) (Kd.R_far (p := ⟨gb217, 1, none⟩) (Kd.R_far (p := ⟨gb217, 0, none⟩) (Kd.R_types HO216.out BK217.out (by decide)) (fun _ hk => hk.2) (.int .i64 t212)) (fun _ hk => hk.2) (.int .i64 t213)) (fun _ hk => hk.2) (.slice Ao16 t214.length co16)) (fun _ h_ => h_.1))) hb); have n1_ := Aside0.mk (blk_below (g := gb210) (o := .cells #[.int .i64 a0_0, .int .i64 a0_1, .slice A0_2 l0_2.length c0_2] 29 (0, 0)) (by (with_reducible repeat (first | refine blk_drewN ?_ _ | refine blk_drew ?_ | refine blk_alloc ?_ _)); refine blk_far ?_ NB210_217.out _; (with_reducible repeat (first | refine blk_drewN ?_ _ | refine blk_drew ?_ | refine blk_alloc ?_ _)); refine blk_far ?_ NB210_217.out _; (with_reducible repeat (first | refine blk_drewN ?_ _ | refine blk_drew ?_ | refine blk_alloc ?_ _)); refine blk_far ?_ NB210_217.out _; (with_reducible repeat (first | refine blk_drewN ?_ _ | refine blk_drew ?_ | refine blk_alloc ?_ _)); exact BK210.out) hb); have n2_ := Aside0.mk (blk_below (g := gb211) (o := .cells #[.int .i64 0, .int .i64 0, .slice none 0 0] 29 (0, 0)) (by (with_reducible repeat (first | refine blk_drewN ?_ _ | refine blk_drew ?_ | refine blk_alloc ?_ _)); refine blk_far ?_ NB211_217.out _; (with_reducible repeat (first | refine blk_drewN ?_ _ | refine blk_drew ?_ | refine blk_alloc ?_ _)); refine blk_far ?_ NB211_217.out _; (with_reducible repeat (first | refine blk_drewN ?_ _ | refine blk_drew ?_ | refine blk_alloc ?_ _)); refine blk_far ?_ NB211_217.out _; (with_reducible repeat (first | refine blk_drewN ?_ _ | refine blk_drew ?_ | refine blk_alloc ?_ _)); exact BK211.out) hb); have n3_ := Aside0.mk (blk_below (g := gb217) (o := .cells #[.int .i64 t212, .int .i64 t213, .slice Ao16 t214.length co16] 29 (0, 0)) (by (with_reducible repeat (first | refine blk_drewN ?_ _ | refine blk_drew ?_ | refine blk_alloc ?_ _)); refine blk_put (cs := #[.int .i64 t212, .int .i64 t213, .slice none 0 0]) ?_ 2 _ rfl; (with_reducible repeat (first | refine blk_drewN ?_ _ | refine blk_drew ?_ | refine blk_alloc ?_ _)); refine blk_put (cs := #[.int .i64 t212, .int .i64 0, .slice none 0 0]) ?_ 1 _ rfl; (with_reducible repeat (first | refine blk_drewN ?_ _ | refine blk_drew ?_ | refine blk_alloc ?_ _)); refine blk_put (cs := #[.int .i64 0, .int .i64 0, .slice none 0 0]) ?_ 0 _ rfl; (with_reducible repeat (first | refine blk_drewN ?_ _ | refine blk_drew ?_ | refine blk_alloc ?_ _)); exact BK217.out) hb); have n4_ := Aside0.mk (below_step (nH3 HB.out GE210.out GE211.out GE217.out) hb); clear HO216; clear BK210; clear BK211; clear BK217; clear HB; have HO216 := n0_; have BK210 := n1_; have BK211 := n2_; have BK217 := n3_; have HB := n4_; clear n0_ n1_ n2_ n3_ n4_; (try clear hb); (try clear hb2); (try clear hk); (try clear hi)))
      go_meet
      case rel => exact ⟨_, (true), nS, H', ⟨by first | omega | exact Nat.le_refl _⟩, ⟨by (with_reducible repeat (first | apply Kd.R_alloc | apply Kd.R_drewN | apply Kd.R_drew)); exact HO216.out⟩, ⟨by (with_reducible repeat (first | refine blk_drewN ?_ _ | refine blk_drew ?_ | refine blk_alloc ?_ _)); exact BK210.out⟩, ⟨by (with_reducible repeat (first | refine blk_drewN ?_ _ | refine blk_drew ?_ | refine blk_alloc ?_ _)); exact BK211.out⟩, ⟨by (with_reducible repeat (first | refine blk_drewN ?_ _ | refine blk_drew ?_ | refine blk_alloc ?_ _)); exact BK217.out⟩, ⟨nH3 HB.out GE210.out GE211.out GE217.out⟩⟩
    · rw [if_neg c19] at H
      have c19b0 : decide (a1 ≤ 0) = false := decide_eq_false c19
      clear c19
      (first | rw [c19b0] | (simp only [i64_w, i32_w]; rw [c19b0]) | skip)
      have H' := Aside0.mk H
      clear H; have hnb24 := NB210_211.out; have hnc24 := NB211_210.out; have hnb25 := NB210_217.out; have hnc25 := NB217_210.out
      have hcz26_0 : w12.cell? ⟨gb210, 0, none⟩ = some (.int .i64 a0_0) := (blk_cell BK210.out 0).trans rfl
      have hcz26_1 : w12.cell? ⟨gb210, 1, none⟩ = some (.int .i64 a0_1) := (blk_cell BK210.out 1).trans rfl
      have hcz26_2 : w12.cell? ⟨gb210, 2, none⟩ = some (.slice A0_2 l0_2.length c0_2) := (blk_cell BK210.out 2).trans rfl
      have hfz26_0 := blk_frozen BK210.out 0
      have hfz26_1 := blk_frozen BK210.out 1
      have hfz26_2 := blk_frozen BK210.out 2
      go_wp2_with (first | ((with_reducible refine gate_callee (f := 50) rfl ?_); refine goesL_ (some 21) rfl rfl Try.func50 (by kernel_rfl) rfl #[.agg #[.int .i64 a0_0, .int .i64 a0_1, .slice A0_2 l0_2.length c0_2], .int .i64 a2, .int .i64 a3] rfl (by (try simp only [List.map_toArray, List.map_cons, List.map_nil]); first | done | rfl | (simp only [List.length_drop, List.length_take]; rfl)) ?_; (with_reducible refine (spec_l14Asked.calls k a0_0 a0_1 _ _ l0_2 a2 a3 true _ ?side1 ?side2 A17.out).mono ?_); (case side1 => exact Kd.C_below HR0_2.out (nH3 HB.out GE210.out GE211.out GE217.out)); (case side2 => exact HC0_2.out); rintro e w27 ⟨rfl, hb⟩; refine ⟨_, rfl, ?_⟩; have n0_ := Aside0.mk (Kd.R_below (by (with_reducible repeat (first | apply Kd.R_alloc | apply Kd.R_drewN | apply Kd.R_drew)); exact (Kd.R_mono (Kd.R_far (p := ⟨gb217, 2, none⟩) (Kd.R_far (p := ⟨gb217, 1, none⟩) (Kd.R_far (p := ⟨gb217, 0, none⟩) (Kd.R_types HO216.out BK217.out (by decide)) (fun _ hk => hk.2) (.int .i64 t212)) (fun _ hk => hk.2) (.int .i64 t213)) (fun _ hk => hk.2) (.slice Ao16 t214.length co16)) (fun _ h_ => h_.1))) hb); have n1_ := Aside0.mk (blk_below (g := gb210) (o := .cells #[.int .i64 a0_0, .int .i64 a0_1, .slice A0_2 l0_2.length c0_2] 29 (0, 0)) (by (with_reducible repeat (first | refine blk_drewN ?_ _ | refine blk_drew ?_ | refine blk_alloc ?_ _)); refine blk_far ?_ NB210_217.out _; (with_reducible repeat (first | refine blk_drewN ?_ _ | refine blk_drew ?_ | refine blk_alloc ?_ _)); refine blk_far ?_ NB210_217.out _; (with_reducible repeat (first | refine blk_drewN ?_ _ | refine blk_drew ?_ | refine blk_alloc ?_ _)); refine blk_far ?_ NB210_217.out _; (with_reducible repeat (first | refine blk_drewN ?_ _ | refine blk_drew ?_ | refine blk_alloc ?_ _)); exact BK210.out) hb); have n2_ := Aside0.mk (blk_below (g := gb211) (o := .cells #[.int .i64 0, .int .i64 0, .slice none 0 0] 29 (0, 0)) (by (with_reducible repeat (first | refine blk_drewN ?_ _ | refine blk_drew ?_ | refine blk_alloc ?_ _)); refine blk_far ?_ NB211_217.out _; (with_reducible repeat (first | refine blk_drewN ?_ _ | refine blk_drew ?_ | refine blk_alloc ?_ _)); refine blk_far ?_ NB211_217.out _; (with_reducible repeat (first | refine blk_drewN ?_ _ | refine blk_drew ?_ | refine blk_alloc ?_ _)); refine blk_far ?_ NB211_217.out _; (with_reducible repeat (first | refine blk_drewN ?_ _ | refine blk_drew ?_ | refine blk_alloc ?_ _)); exact BK211.out) hb); have n3_ := Aside0.mk (blk_below (g := gb217) (o := .cells #[.int .i64 t212, .int .i64 t213, .slice Ao16 t214.length co16] 29 (0, 0)) (by (with_reducible repeat (first | refine blk_drewN ?_ _ | refine blk_drew ?_ | refine blk_alloc ?_ _)); refine blk_put (cs := #[.int .i64 t212, .int .i64 t213, .slice none 0 0]) ?_ 2 _ rfl; (with_reducible repeat (first | refine blk_drewN ?_ _ | refine blk_drew ?_ | refine blk_alloc ?_ _)); refine blk_put (cs := #[.int .i64 t212, .int .i64 0, .slice none 0 0]) ?_ 1 _ rfl; (with_reducible repeat (first | refine blk_drewN ?_ _ | refine blk_drew ?_ | refine blk_alloc ?_ _)); refine blk_put (cs := #[.int .i64 0, .int .i64 0, .slice none 0 0]) ?_ 0 _ rfl; (with_reducible repeat (first | refine blk_drewN ?_ _ | refine blk_drew ?_ | refine blk_alloc ?_ _)); exact BK217.out) hb); have n4_ := Aside0.mk (below_step (nH3 HB.out GE210.out GE211.out GE217.out) hb); clear HO216; clear BK210; clear BK211; clear BK217; clear HB; have HO216 := n0_; have BK210 := n1_; have BK211 := n2_; have BK217 := n3_; have HB := n4_; clear n0_ n1_ n2_ n3_ n4_; (try clear hb); (try clear hb2); (try clear hk); (try clear hi); have hcz28_0 : w27.cell? ⟨gb210, 0, none⟩ = some (.int .i64 a0_0) := (blk_cell BK210.out 0).trans rfl; have hcz28_1 : w27.cell? ⟨gb210, 1, none⟩ = some (.int .i64 a0_1) := (blk_cell BK210.out 1).trans rfl; have hcz28_2 : w27.cell? ⟨gb210, 2, none⟩ = some (.slice A0_2 l0_2.length c0_2) := (blk_cell BK210.out 2).trans rfl; have hfz28_0 := blk_frozen BK210.out 0; have hfz28_1 := blk_frozen BK210.out 1; have hfz28_2 := blk_frozen BK210.out 2))
      go_meet
      case rel => exact ⟨_, (decide ((l0_2.length : Int) ≥ 200)), nS, H', ⟨by first | omega | exact Nat.le_refl _⟩, ⟨by (with_reducible repeat (first | apply Kd.R_alloc | apply Kd.R_drewN | apply Kd.R_drew)); exact HO216.out⟩, ⟨by (with_reducible repeat (first | refine blk_drewN ?_ _ | refine blk_drew ?_ | refine blk_alloc ?_ _)); exact BK210.out⟩, ⟨by (with_reducible repeat (first | refine blk_drewN ?_ _ | refine blk_drew ?_ | refine blk_alloc ?_ _)); exact BK211.out⟩, ⟨by (with_reducible repeat (first | refine blk_drewN ?_ _ | refine blk_drew ?_ | refine blk_alloc ?_ _)); exact BK217.out⟩, ⟨nH3 HB.out GE210.out GE211.out GE217.out⟩⟩
  · replace c18 := Bool.eq_false_iff.mpr c18
    subst c18
    have H1 : (spec_Book.j0 k a1 a2 a3 true a0_0 a0_1 l0_2 t212 t213 t214) = some (r1, r2, r3, r4) := by rw [if_neg (show ¬ (false = true) by decide)] at H; exact H
    clear H; have H := H1; clear H1
    have H' := Aside0.mk H
    clear H; have hnb29 := NB210_211.out; have hnc29 := NB211_210.out; have hnb30 := NB210_217.out; have hnc30 := NB217_210.out
    have hcz31_0 : w12.cell? ⟨gb210, 0, none⟩ = some (.int .i64 a0_0) := (blk_cell BK210.out 0).trans rfl
    have hcz31_1 : w12.cell? ⟨gb210, 1, none⟩ = some (.int .i64 a0_1) := (blk_cell BK210.out 1).trans rfl
    have hcz31_2 : w12.cell? ⟨gb210, 2, none⟩ = some (.slice A0_2 l0_2.length c0_2) := (blk_cell BK210.out 2).trans rfl
    have hfz31_0 := blk_frozen BK210.out 0
    have hfz31_1 := blk_frozen BK210.out 1
    have hfz31_2 := blk_frozen BK210.out 2
    go_wp2_with (first | ((with_reducible refine gate_callee (f := 50) rfl ?_); refine goesL_ (some 21) rfl rfl Try.func50 (by kernel_rfl) rfl #[.agg #[.int .i64 a0_0, .int .i64 a0_1, .slice A0_2 l0_2.length c0_2], .int .i64 a2, .int .i64 a3] rfl (by (try simp only [List.map_toArray, List.map_cons, List.map_nil]); first | done | rfl | (simp only [List.length_drop, List.length_take]; rfl)) ?_; (with_reducible refine (spec_l14Asked.calls k a0_0 a0_1 _ _ l0_2 a2 a3 false _ ?side1 ?side2 A17.out).mono ?_); (case side1 => exact Kd.C_below HR0_2.out (nH3 HB.out GE210.out GE211.out GE217.out)); (case side2 => exact HC0_2.out); rintro e w32 ⟨rfl, hb⟩; refine ⟨_, rfl, ?_⟩; have n0_ := Aside0.mk (Kd.R_below (by (with_reducible repeat (first | apply Kd.R_alloc | apply Kd.R_drewN | apply Kd.R_drew)); exact (Kd.R_mono (Kd.R_far (p := ⟨gb217, 2, none⟩) (Kd.R_far (p := ⟨gb217, 1, none⟩) (Kd.R_far (p := ⟨gb217, 0, none⟩) (Kd.R_types HO216.out BK217.out (by decide)) (fun _ hk => hk.2) (.int .i64 t212)) (fun _ hk => hk.2) (.int .i64 t213)) (fun _ hk => hk.2) (.slice Ao16 t214.length co16)) (fun _ h_ => h_.1))) hb); have n1_ := Aside0.mk (blk_below (g := gb210) (o := .cells #[.int .i64 a0_0, .int .i64 a0_1, .slice A0_2 l0_2.length c0_2] 29 (0, 0)) (by (with_reducible repeat (first | refine blk_drewN ?_ _ | refine blk_drew ?_ | refine blk_alloc ?_ _)); refine blk_far ?_ NB210_217.out _; (with_reducible repeat (first | refine blk_drewN ?_ _ | refine blk_drew ?_ | refine blk_alloc ?_ _)); refine blk_far ?_ NB210_217.out _; (with_reducible repeat (first | refine blk_drewN ?_ _ | refine blk_drew ?_ | refine blk_alloc ?_ _)); refine blk_far ?_ NB210_217.out _; (with_reducible repeat (first | refine blk_drewN ?_ _ | refine blk_drew ?_ | refine blk_alloc ?_ _)); exact BK210.out) hb); have n2_ := Aside0.mk (blk_below (g := gb211) (o := .cells #[.int .i64 0, .int .i64 0, .slice none 0 0] 29 (0, 0)) (by (with_reducible repeat (first | refine blk_drewN ?_ _ | refine blk_drew ?_ | refine blk_alloc ?_ _)); refine blk_far ?_ NB211_217.out _; (with_reducible repeat (first | refine blk_drewN ?_ _ | refine blk_drew ?_ | refine blk_alloc ?_ _)); refine blk_far ?_ NB211_217.out _; (with_reducible repeat (first | refine blk_drewN ?_ _ | refine blk_drew ?_ | refine blk_alloc ?_ _)); refine blk_far ?_ NB211_217.out _; (with_reducible repeat (first | refine blk_drewN ?_ _ | refine blk_drew ?_ | refine blk_alloc ?_ _)); exact BK211.out) hb); have n3_ := Aside0.mk (blk_below (g := gb217) (o := .cells #[.int .i64 t212, .int .i64 t213, .slice Ao16 t214.length co16] 29 (0, 0)) (by (with_reducible repeat (first | refine blk_drewN ?_ _ | refine blk_drew ?_ | refine blk_alloc ?_ _)); refine blk_put (cs := #[.int .i64 t212, .int .i64 t213, .slice none 0 0]) ?_ 2 _ rfl; (with_reducible repeat (first | refine blk_drewN ?_ _ | refine blk_drew ?_ | refine blk_alloc ?_ _)); refine blk_put (cs := #[.int .i64 t212, .int .i64 0, .slice none 0 0]) ?_ 1 _ rfl; (with_reducible repeat (first | refine blk_drewN ?_ _ | refine blk_drew ?_ | refine blk_alloc ?_ _)); refine blk_put (cs := #[.int .i64 0, .int .i64 0, .slice none 0 0]) ?_ 0 _ rfl; (with_reducible repeat (first | refine blk_drewN ?_ _ | refine blk_drew ?_ | refine blk_alloc ?_ _)); exact BK217.out) hb); have n4_ := Aside0.mk (below_step (nH3 HB.out GE210.out GE211.out GE217.out) hb); clear HO216; clear BK210; clear BK211; clear BK217; clear HB; have HO216 := n0_; have BK210 := n1_; have BK211 := n2_; have BK217 := n3_; have HB := n4_; clear n0_ n1_ n2_ n3_ n4_; (try clear hb); (try clear hb2); (try clear hk); (try clear hi)))
    go_meet
    case rel => exact ⟨_, (true), nS, H', ⟨by first | omega | exact Nat.le_refl _⟩, ⟨by (with_reducible repeat (first | apply Kd.R_alloc | apply Kd.R_drewN | apply Kd.R_drew)); exact HO216.out⟩, ⟨by (with_reducible repeat (first | refine blk_drewN ?_ _ | refine blk_drew ?_ | refine blk_alloc ?_ _)); exact BK210.out⟩, ⟨by (with_reducible repeat (first | refine blk_drewN ?_ _ | refine blk_drew ?_ | refine blk_alloc ?_ _)); exact BK211.out⟩, ⟨by (with_reducible repeat (first | refine blk_drewN ?_ _ | refine blk_drew ?_ | refine blk_alloc ?_ _)); exact BK217.out⟩, ⟨nH3 HB.out GE210.out GE211.out GE217.out⟩⟩
 case rest =>
  clear HC6; try clear c1; try clear c2; try clear p2; try clear c3; try clear c5; try clear c9; try clear c13; try clear c14; try clear c18; try clear c19; try clear c19b0; try clear c20; try clear c21; try clear c24; try clear c25; try clear c29; try clear c30; try clear hcz10_0; try clear hcz10_1; try clear hcz10_2; try clear hcz15_0; try clear hcz15_1; try clear hcz15_2; try clear hcz22_0; try clear hcz22_1; try clear hcz22_2; try clear hcz26_0; try clear hcz26_1; try clear hcz26_2; try clear hcz28_0; try clear hcz28_1; try clear hcz28_2; try clear hcz31_0; try clear hcz31_1; try clear hcz31_2
  try clear hfz10_0; try clear hfz10_1; try clear hfz10_2; try clear hfz15_0; try clear hfz15_1; try clear hfz15_2; try clear hfz22_0; try clear hfz22_1; try clear hfz22_2; try clear hfz26_0; try clear hfz26_1; try clear hfz26_2; try clear hfz28_0; try clear hfz28_1; try clear hfz28_2; try clear hfz31_0; try clear hfz31_1; try clear hfz31_2
  obtain ⟨kq, x32_5, rfl, HA, HJ5, HO_218002, BK210, BK211, BK217, HB⟩ := hcut
  cases kq with
  | zero => exact absurd HA.out (by simp [spec_Book.j0])
  | succ kj5 =>
   have H := HA.out; clear HA
   simp only [spec_Book.j0] at H
   by_cases c33 : x32_5 = true
   · subst c33
     have H1 : ((spec_l14Same.f kj5 a0_0 a0_1 l0_2).bind fun bt219 => (some (bt219.1, bt219.2.1, bt219.2.2, (-1)))) = some (r1, r2, r3, r4) := by rw [if_pos rfl] at H; exact H
     clear H; have H := H1; clear H1
     replace H := Option.bind_eq_some_iff.mp H
     obtain ⟨⟨t219, t220, t221⟩, A340, H⟩ := H
     replace H : (some (t219, t220, t221, (-1))) = some (r1, r2, r3, r4) := H
     have A34 := Aside0.mk A340
     clear A340
     simp only [Option.some.injEq, Prod.mk.injEq] at H
     obtain ⟨rfl, rfl, rfl, rfl⟩ := H
     have hnb35 := NB210_211.out; have hnc35 := NB211_210.out; have hnb36 := NB210_217.out; have hnc36 := NB217_210.out
     have hcz37_0 : wc.cell? ⟨gb210, 0, none⟩ = some (.int .i64 a0_0) := (blk_cell BK210.out 0).trans rfl
     have hcz37_1 : wc.cell? ⟨gb210, 1, none⟩ = some (.int .i64 a0_1) := (blk_cell BK210.out 1).trans rfl
     have hcz37_2 : wc.cell? ⟨gb210, 2, none⟩ = some (.slice A0_2 l0_2.length c0_2) := (blk_cell BK210.out 2).trans rfl
     have hfz37_0 := blk_frozen BK210.out 0
     have hfz37_1 := blk_frozen BK210.out 1
     have hfz37_2 := blk_frozen BK210.out 2
     go_wp2_with (first | ((with_reducible refine gate_callee (f := 58) rfl ?_); refine goesL_ (some 34) rfl rfl Try.func58 (by kernel_rfl) rfl #[.agg #[.int .i64 a0_0, .int .i64 a0_1, .slice A0_2 l0_2.length c0_2]] rfl (by (try simp only [List.map_toArray, List.map_cons, List.map_nil]); first | done | rfl | (simp only [List.length_drop, List.length_take]; rfl)) ?_; (with_reducible refine (spec_l14Same.calls kj5 a0_0 a0_1 _ _ l0_2 t219 t220 t221 _ ?side1 ?side2 A34.out).mono ?_); (case side1 => repeat (first | exact (Kd.C_below HR0_2.out HB.out) | (with_reducible refine Kd.C_alloc ?_ _) | (with_reducible refine Kd.C_drewN ?_ _) | (with_reducible refine Kd.C_drew ?_))); (case side2 => exact HC0_2.out); rintro e w38 ⟨v222, rfl, ho0, hb⟩; refine ⟨_, rfl, ?_⟩; have n0_ := Aside0.mk (Kd.R_elder' (nR HO_218002.out) (Kd.R_base ho0) hb); have n1_ := Aside0.mk (Kd.R_lower (Kd.R_new' ho0 (Kd.R_lt (nR HO_218002.out))) (below_size (nH3 HB.out GE210.out GE211.out GE217.out))); have n2_ := Aside0.mk (blk_below (g := gb210) (o := .cells #[.int .i64 a0_0, .int .i64 a0_1, .slice A0_2 l0_2.length c0_2] 29 (0, 0)) (nB BK210.out) hb); have n3_ := Aside0.mk (blk_below (g := gb211) (o := .cells #[.int .i64 0, .int .i64 0, .slice none 0 0] 29 (0, 0)) (nB BK211.out) hb); have n4_ := Aside0.mk (blk_below (g := gb217) (o := .cells #[.int .i64 t212, .int .i64 t213, .slice Ao16 t214.length co16] 29 (0, 0)) (nB BK217.out) hb); have n5_ := Aside0.mk (below_step (nH3 HB.out GE210.out GE211.out GE217.out) hb); clear HO_218002; clear BK210; clear BK211; clear BK217; clear HB; have HO_218002 := n0_; have HO223 := n1_; have BK210 := n2_; have BK211 := n3_; have BK217 := n4_; have HB := n5_; clear n0_ n1_ n2_ n3_ n4_ n5_; (try clear hb); (try clear hb2); (try clear hk); (try clear hi); (try clear ho0); have hnb39 := NB211_217.out; have hnc39 := NB217_211.out; have hcz40_0 : w38.cell? ⟨gb211, 0, none⟩ = some (.int .i64 0) := (blk_cell BK211.out 0).trans rfl; have hcz40_1 : w38.cell? ⟨gb211, 1, none⟩ = some (.int .i64 0) := (blk_cell BK211.out 1).trans rfl; have hcz40_2 : w38.cell? ⟨gb211, 2, none⟩ = some (.slice none 0 0) := (blk_cell BK211.out 2).trans rfl; have hfz40_0 := blk_frozen BK211.out 0; have hfz40_1 := blk_frozen BK211.out 1; have hfz40_2 := blk_frozen BK211.out 2; obtain ⟨Ao41, co41, eo41⟩ := Kd.R_slice HO223.out; subst eo41))
     refine bodyPost_ret (results_ct rfl _ _ gb211 29 #[.int .i64 t219, .int .i64 t220, .slice Ao41 t221.length co41] (0, 0) _ rfl (by (with_reducible repeat (first | refine blk_drewN ?_ _ | refine blk_drew ?_ | refine blk_alloc ?_ _)); refine blk_put (cs := #[.int .i64 t219, .int .i64 t220, .slice none 0 0]) ?_ 2 _ rfl; (with_reducible repeat (first | refine blk_drewN ?_ _ | refine blk_drew ?_ | refine blk_alloc ?_ _)); refine blk_put (cs := #[.int .i64 t219, .int .i64 0, .slice none 0 0]) ?_ 1 _ rfl; (with_reducible repeat (first | refine blk_drewN ?_ _ | refine blk_drew ?_ | refine blk_alloc ?_ _)); refine blk_put (cs := #[.int .i64 0, .int .i64 0, .slice none 0 0]) ?_ 0 _ rfl; (with_reducible repeat (first | refine blk_drewN ?_ _ | refine blk_drew ?_ | refine blk_alloc ?_ _)); exact BK211.out) Try.underlying29 rfl (by kernel_rfl)) rfl ?_
     exact ⟨_, by first | rfl | (simp [errW_none, errW_some] <;> rfl) | (simp [*, errW_none, errW_some] <;> first | rfl | (simp [wrap64]; done)), by (with_reducible repeat (first | apply Kd.R_alloc | apply Kd.R_drewN | apply Kd.R_drew)); exact Kd.R_mono (Kd.R_far (p := ⟨gb211, 2, none⟩) (Kd.R_far (p := ⟨gb211, 1, none⟩) (Kd.R_far (p := ⟨gb211, 0, none⟩) (Kd.R_types HO223.out BK211.out (by decide)) (fun _ hk => hk.2) (.int .i64 t219)) (fun _ hk => hk.2) (.int .i64 t220)) (fun _ hk => hk.2) (.slice Ao41 t221.length co41)) (fun _ hk => trivial), nH3 HB.out GE210.out GE211.out GE217.out⟩
   · replace c33 := Bool.eq_false_iff.mpr c33
     subst c33
     have H1 : (spec_Book.l0 kj5 a1 a2 a3 0 a0_0 a0_1 l0_2 t212 t213 t214) = some (r1, r2, r3, r4) := by rw [if_neg (show ¬ (false = true) by decide)] at H; exact H
     clear H; have H := H1; clear H1
     have H' := Aside0.mk H
     clear H; go_wp2
     go_loopg [11] kj5 (fun kq v11 w' => ∃ (x11_2 : Int) (x212000_2 : Int) (x212001_2 : Int), v11 = .int .i64 x11_2 ∧ Aside0 (spec_Book.l0 kq a1 a2 a3 x11_2 a0_0 a0_1 l0_2 t212 t213 t214 = some (r1, r2, r3, r4)) ∧ Aside0 (kq ≤ kj5) ∧ Aside0 (Kd.R k66 66 w' w.heap.size (fun _ => True) (.slice Ao16 t214.length co16) t214) ∧ Aside0 (w'.heap[gb210]? = some (.cells #[.int .i64 a0_0, .int .i64 a0_1, (.slice A0_2 l0_2.length c0_2)] 29 (0, 0))) ∧ Aside0 (w'.heap[gb211]? = some (.cells #[.int .i64 x212000_2, .int .i64 x212001_2, (.slice none 0 0)] 29 (0, 0))) ∧ Aside0 (w'.heap[gb217]? = some (.cells #[.int .i64 t212, .int .i64 t213, (.slice Ao16 t214.length co16)] 29 (0, 0))) ∧ Aside0 (Below w.heap.size w w'))
     case atStart => exact ⟨(0), (0), (0), nS, H', ⟨Nat.le_refl _⟩, ⟨by (with_reducible repeat (first | apply Kd.R_alloc | apply Kd.R_drewN | apply Kd.R_drew)); exact HO_218002.out⟩, ⟨by (with_reducible repeat (first | refine blk_drewN ?_ _ | refine blk_drew ?_ | refine blk_alloc ?_ _)); exact BK210.out⟩, ⟨by (with_reducible repeat (first | refine blk_drewN ?_ _ | refine blk_drew ?_ | refine blk_alloc ?_ _)); exact BK211.out⟩, ⟨by (with_reducible repeat (first | refine blk_drewN ?_ _ | refine blk_drew ?_ | refine blk_alloc ?_ _)); exact BK217.out⟩, ⟨nH3 HB.out GE210.out GE211.out GE217.out⟩⟩
     case round =>
      clear H'
      try clear c1; try clear c2; try clear p2; try clear c3; try clear c5; try clear p6; try clear c9; try clear c13; try clear c14; try clear c18; try clear c19; try clear c19b0; try clear c20; try clear c21; try clear c24; try clear c25; try clear c29; try clear c30; try clear c33; try clear c35; try clear c36; try clear c39; try clear hcz10_0; try clear hcz10_1; try clear hcz10_2; try clear hcz15_0; try clear hcz15_1; try clear hcz15_2; try clear hcz22_0; try clear hcz22_1; try clear hcz22_2; try clear hcz26_0; try clear hcz26_1; try clear hcz26_2; try clear hcz28_0; try clear hcz28_1; try clear hcz28_2
      try clear hcz31_0; try clear hcz31_1; try clear hcz31_2; try clear hcz37_0; try clear hcz37_1; try clear hcz37_2; try clear hcz40_0; try clear hcz40_1; try clear hcz40_2; try clear hfz10_0; try clear hfz10_1; try clear hfz10_2; try clear hfz15_0; try clear hfz15_1; try clear hfz15_2; try clear hfz22_0; try clear hfz22_1; try clear hfz22_2; try clear hfz26_0; try clear hfz26_1; try clear hfz26_2; try clear hfz28_0; try clear hfz28_1; try clear hfz28_2; try clear hfz31_0; try clear hfz31_1; try clear hfz31_2; try clear hfz37_0; try clear hfz37_1; try clear hfz37_2; try clear hfz40_0; try clear hfz40_1
      try clear hfz40_2; try clear p2
      obtain ⟨x11_2, x212000_2, x212001_2, rfl, HA, HK2, HO_218002, BK210, BK211, BK217, HB⟩ := hrel
      cases gk with
      | zero => exact absurd HA.out (by simp [spec_Book.l0])
      | succ k2 =>
       have H := HA.out; clear HA
       simp only [spec_Book.l0] at H
       by_cases c42 : x11_2 < (l0_2.length : Int)
       · rw [if_pos c42] at H
         have c42b0 : decide (x11_2 < (l0_2.length : Int)) = true := decide_eq_true c42
         clear c42
         by_cases c43 : 0 ≤ x11_2
         rotate_left
         · (rw [if_neg c43] at H; exact absurd H (by simp))
         rw [if_pos c43] at H
         have c43b0 : decide (0 ≤ x11_2) = true := decide_eq_true c43
         clear c43
         by_cases c44 : ((rd_T66 l0_2 x11_2).f0) = a1
         · rw [if_pos c44] at H
           have c44b0 : (((rd_T66 l0_2 x11_2).f0) == a1) = true := beq_iff_eq.mpr c44
           have c44b1 : (((rd_T66 l0_2 x11_2).f0) != a1) = false := bne_eq_false_iff_eq.mpr c44
           clear c44
           simp only [Option.some.injEq, Prod.mk.injEq] at H
           obtain ⟨rfl, rfl, rfl, rfl⟩ := H
           have hnb45 := NB210_211.out; have hnc45 := NB211_210.out; have hnb46 := NB210_217.out; have hnc46 := NB217_210.out
           have hcz47_0 : wr.cell? ⟨gb210, 0, none⟩ = some (.int .i64 a0_0) := (blk_cell BK210.out 0).trans rfl
           have hcz47_1 : wr.cell? ⟨gb210, 1, none⟩ = some (.int .i64 a0_1) := (blk_cell BK210.out 1).trans rfl
           have hcz47_2 : wr.cell? ⟨gb210, 2, none⟩ = some (.slice A0_2 l0_2.length c0_2) := (blk_cell BK210.out 2).trans rfl
           have hfz47_0 := blk_frozen BK210.out 0
           have hfz47_1 := blk_frozen BK210.out 1
           have hfz47_2 := blk_frozen BK210.out 2
           have p224 : 0 ≤ (x11_2 : Int) := of_decide_eq_true nQ
           have q224 : x11_2 < (l0_2.length : Int) := of_decide_eq_true nQ
           obtain ⟨ad224, e224, hx224_0, hx224_1, hx224_2, hx224_3⟩ := at_T66 HR0_2.out x11_2 p224 q224
           cases e224
           replace hx224_0 := (HB.out.cell (World.block_lt_of_cell? w _ hx224_0)).trans hx224_0
           replace hx224_1 := (HB.out.cell (World.block_lt_of_cell? w _ hx224_1)).trans hx224_1
           replace hx224_2 := (HB.out.cell (World.block_lt_of_cell? w _ hx224_2)).trans hx224_2
           replace hx224_3 := (HB.out.cell (World.block_lt_of_cell? w _ hx224_3)).trans hx224_3
           replace p224 := eq_true p224; replace q224 := eq_true q224; have hnb48 := NB217_211.out; have hnc48 := NB211_217.out
           have hcz49_0 : wr.cell? ⟨gb217, 0, none⟩ = some (.int .i64 t212) := (blk_cell BK217.out 0).trans rfl
           have hcz49_1 : wr.cell? ⟨gb217, 1, none⟩ = some (.int .i64 t213) := (blk_cell BK217.out 1).trans rfl
           have hcz49_2 : wr.cell? ⟨gb217, 2, none⟩ = some (.slice Ao16 t214.length co16) := (blk_cell BK217.out 2).trans rfl
           have hfz49_0 := blk_frozen BK217.out 0
           have hfz49_1 := blk_frozen BK217.out 1
           have hfz49_2 := blk_frozen BK217.out 2
           have hcz50_0 : wr.cell? ⟨gb211, 0, none⟩ = some (.int .i64 x212000_2) := (blk_cell BK211.out 0).trans rfl
           have hcz50_1 : wr.cell? ⟨gb211, 1, none⟩ = some (.int .i64 x212001_2) := (blk_cell BK211.out 1).trans rfl
           have hcz50_2 : wr.cell? ⟨gb211, 2, none⟩ = some (.slice none 0 0) := (blk_cell BK211.out 2).trans rfl
           have hfz50_0 := blk_frozen BK211.out 0
           have hfz50_1 := blk_frozen BK211.out 1
           have hfz50_2 := blk_frozen BK211.out 2
           go_wp2
           refine bodyPost_ret (results_ct rfl _ _ gb211 29 #[.int .i64 t212, .int .i64 t213, .slice Ao16 t214.length co16] (0, 0) _ rfl (by (with_reducible repeat (first | refine blk_drewN ?_ _ | refine blk_drew ?_ | refine blk_alloc ?_ _)); refine blk_put (cs := #[.int .i64 t212, .int .i64 t213, .slice none 0 0]) ?_ 2 _ rfl; (with_reducible repeat (first | refine blk_drewN ?_ _ | refine blk_drew ?_ | refine blk_alloc ?_ _)); refine blk_put (cs := #[.int .i64 t212, .int .i64 x212001_2, .slice none 0 0]) ?_ 1 _ rfl; (with_reducible repeat (first | refine blk_drewN ?_ _ | refine blk_drew ?_ | refine blk_alloc ?_ _)); refine blk_put (cs := #[.int .i64 x212000_2, .int .i64 x212001_2, .slice none 0 0]) ?_ 0 _ rfl; (with_reducible repeat (first | refine blk_drewN ?_ _ | refine blk_drew ?_ | refine blk_alloc ?_ _)); exact BK211.out) Try.underlying29 rfl (by kernel_rfl)) rfl ?_
           exact ⟨_, by first | rfl | (simp [errW_none, errW_some] <;> rfl) | (simp [*, errW_none, errW_some] <;> first | rfl | (simp [wrap64]; done)), by (with_reducible repeat (first | apply Kd.R_alloc | apply Kd.R_drewN | apply Kd.R_drew)); exact Kd.R_mono (Kd.R_far (p := ⟨gb211, 2, none⟩) (Kd.R_far (p := ⟨gb211, 1, none⟩) (Kd.R_far (p := ⟨gb211, 0, none⟩) (Kd.R_types HO_218002.out BK211.out (by decide)) (fun _ hk => hk.2) (.int .i64 t212)) (fun _ hk => hk.2) (.int .i64 t213)) (fun _ hk => hk.2) (.slice Ao16 t214.length co16)) (fun _ hk => trivial), nH3 HB.out GE210.out GE211.out GE217.out⟩
         · rw [if_neg c44] at H
           have c44b0 : (((rd_T66 l0_2 x11_2).f0) == a1) = false := beq_eq_false_iff_ne.mpr c44
           have c44b1 : (((rd_T66 l0_2 x11_2).f0) != a1) = true := bne_iff_ne.mpr c44
           have H' := Aside0.mk H
           clear H; have hnb51 := NB210_211.out; have hnc51 := NB211_210.out; have hnb52 := NB210_217.out; have hnc52 := NB217_210.out
           have hcz53_0 : wr.cell? ⟨gb210, 0, none⟩ = some (.int .i64 a0_0) := (blk_cell BK210.out 0).trans rfl
           have hcz53_1 : wr.cell? ⟨gb210, 1, none⟩ = some (.int .i64 a0_1) := (blk_cell BK210.out 1).trans rfl
           have hcz53_2 : wr.cell? ⟨gb210, 2, none⟩ = some (.slice A0_2 l0_2.length c0_2) := (blk_cell BK210.out 2).trans rfl
           have hfz53_0 := blk_frozen BK210.out 0
           have hfz53_1 := blk_frozen BK210.out 1
           have hfz53_2 := blk_frozen BK210.out 2
           have p224 : 0 ≤ (x11_2 : Int) := of_decide_eq_true nQ
           have q224 : x11_2 < (l0_2.length : Int) := of_decide_eq_true nQ
           obtain ⟨ad224, e224, hx224_0, hx224_1, hx224_2, hx224_3⟩ := at_T66 HR0_2.out x11_2 p224 q224
           cases e224
           replace hx224_0 := (HB.out.cell (World.block_lt_of_cell? w _ hx224_0)).trans hx224_0
           replace hx224_1 := (HB.out.cell (World.block_lt_of_cell? w _ hx224_1)).trans hx224_1
           replace hx224_2 := (HB.out.cell (World.block_lt_of_cell? w _ hx224_2)).trans hx224_2
           replace hx224_3 := (HB.out.cell (World.block_lt_of_cell? w _ hx224_3)).trans hx224_3
           replace p224 := eq_true p224; replace q224 := eq_true q224; go_wp2
           go_roundg k2
           case measure => have := HJ5.out; have := HK2.out; omega
           case rel => exact ⟨(wrap64 (x11_2 + 1)), (x212000_2), (x212001_2), nS, H', ⟨by have := HJ5.out; have := HK2.out; omega⟩, ⟨by (with_reducible repeat (first | apply Kd.R_alloc | apply Kd.R_drewN | apply Kd.R_drew)); exact HO_218002.out⟩, ⟨by (with_reducible repeat (first | refine blk_drewN ?_ _ | refine blk_drew ?_ | refine blk_alloc ?_ _)); exact BK210.out⟩, ⟨by (with_reducible repeat (first | refine blk_drewN ?_ _ | refine blk_drew ?_ | refine blk_alloc ?_ _)); exact BK211.out⟩, ⟨by (with_reducible repeat (first | refine blk_drewN ?_ _ | refine blk_drew ?_ | refine blk_alloc ?_ _)); exact BK217.out⟩, ⟨nH3 HB.out GE210.out GE211.out GE217.out⟩⟩
       · rw [if_neg c42] at H
         have c42b0 : decide (x11_2 < (l0_2.length : Int)) = false := decide_eq_false c42
         clear c42
         replace H := Option.bind_eq_some_iff.mp H
         obtain ⟨t225, A540, H⟩ := H
         replace H : (spec_Book.l1 k2 a1 a2 a3 t225 (-1) 0 a0_0 a0_1 l0_2 t212 t213 t214) = some (r1, r2, r3, r4) := H
         have A54 := Aside0.mk A540
         clear A540
         have H' := Aside0.mk H
         clear H; have hnb55 := NB210_211.out; have hnc55 := NB211_210.out; have hnb56 := NB210_217.out; have hnc56 := NB217_210.out
         have hcz57_0 : wr.cell? ⟨gb210, 0, none⟩ = some (.int .i64 a0_0) := (blk_cell BK210.out 0).trans rfl
         have hcz57_1 : wr.cell? ⟨gb210, 1, none⟩ = some (.int .i64 a0_1) := (blk_cell BK210.out 1).trans rfl
         have hcz57_2 : wr.cell? ⟨gb210, 2, none⟩ = some (.slice A0_2 l0_2.length c0_2) := (blk_cell BK210.out 2).trans rfl
         have hfz57_0 := blk_frozen BK210.out 0
         have hfz57_1 := blk_frozen BK210.out 1
         have hfz57_2 := blk_frozen BK210.out 2
         go_wp2_with (first | ((with_reducible refine gate_callee (f := 17) rfl ?_); refine goesL_ (some 54) rfl rfl Try.func17 (by kernel_rfl) rfl #[.agg #[.int .i64 a0_0, .int .i64 a0_1, .slice A0_2 l0_2.length c0_2], .int .i64 a2, .int .i64 a3] rfl (by (try simp only [List.map_toArray, List.map_cons, List.map_nil]); first | done | rfl | (simp only [List.length_drop, List.length_take]; rfl)) ?_; (with_reducible refine (spec_FreeSeats.calls k2 a0_0 a0_1 _ _ l0_2 a2 a3 t225 _ ?side1 ?side2 A54.out).mono ?_); (case side1 => repeat (first | exact (Kd.C_below HR0_2.out HB.out) | (with_reducible refine Kd.C_alloc ?_ _) | (with_reducible refine Kd.C_drewN ?_ _) | (with_reducible refine Kd.C_drew ?_))); (case side2 => exact HC0_2.out); rintro e w58 ⟨v226, rfl, ho0, hb⟩; refine ⟨_, rfl, ?_⟩; have n0_ := Aside0.mk (Kd.R_below (nR HO_218002.out) hb); have n1_ := Aside0.mk (Kd.R_lower ho0 (below_size (nH3 HB.out GE210.out GE211.out GE217.out))); have n2_ := Aside0.mk (blk_below (g := gb210) (o := .cells #[.int .i64 a0_0, .int .i64 a0_1, .slice A0_2 l0_2.length c0_2] 29 (0, 0)) (nB BK210.out) hb); have n3_ := Aside0.mk (blk_below (g := gb211) (o := .cells #[.int .i64 x212000_2, .int .i64 x212001_2, .slice none 0 0] 29 (0, 0)) (nB BK211.out) hb); have n4_ := Aside0.mk (blk_below (g := gb217) (o := .cells #[.int .i64 t212, .int .i64 t213, .slice Ao16 t214.length co16] 29 (0, 0)) (nB BK217.out) hb); have n5_ := Aside0.mk (below_step (nH3 HB.out GE210.out GE211.out GE217.out) hb); clear HO_218002; clear BK210; clear BK211; clear BK217; clear HB; have HO_218002 := n0_; have HO227 := n1_; have BK210 := n2_; have BK211 := n3_; have BK217 := n4_; have HB := n5_; clear n0_ n1_ n2_ n3_ n4_ n5_; (try clear hb); (try clear hb2); (try clear hk); (try clear hi); (try clear ho0)))
         go_loopg [13, 14] k2 (fun kq v13 v14 w' => ∃ (x13_3 : Int) (x14_3 : Int), v13 = .int .i64 x13_3 ∧ v14 = .int .i64 x14_3 ∧ Aside0 (spec_Book.l1 kq a1 a2 a3 t225 x13_3 x14_3 a0_0 a0_1 l0_2 t212 t213 t214 = some (r1, r2, r3, r4)) ∧ Aside0 (kq ≤ k2) ∧ Aside0 (Kd.R (Kd.int .i64) 3 w' w.heap.size (fun _ => True) v226 t225) ∧ Aside0 (Kd.R k66 66 w' w.heap.size (fun _ => True) (.slice Ao16 t214.length co16) t214) ∧ Aside0 (w'.heap[gb210]? = some (.cells #[.int .i64 a0_0, .int .i64 a0_1, (.slice A0_2 l0_2.length c0_2)] 29 (0, 0))) ∧ Aside0 (w'.heap[gb211]? = some (.cells #[.int .i64 x212000_2, .int .i64 x212001_2, (.slice none 0 0)] 29 (0, 0))) ∧ Aside0 (w'.heap[gb217]? = some (.cells #[.int .i64 t212, .int .i64 t213, (.slice Ao16 t214.length co16)] 29 (0, 0))) ∧ Aside0 (Below w.heap.size w w'))
         case atStart => exact ⟨((-1)), (0), nS, nS, H', ⟨Nat.le_refl _⟩, ⟨by (with_reducible repeat (first | apply Kd.R_alloc | apply Kd.R_drewN | apply Kd.R_drew)); exact HO227.out⟩, ⟨by (with_reducible repeat (first | apply Kd.R_alloc | apply Kd.R_drewN | apply Kd.R_drew)); exact HO_218002.out⟩, ⟨by (with_reducible repeat (first | refine blk_drewN ?_ _ | refine blk_drew ?_ | refine blk_alloc ?_ _)); exact BK210.out⟩, ⟨by (with_reducible repeat (first | refine blk_drewN ?_ _ | refine blk_drew ?_ | refine blk_alloc ?_ _)); exact BK211.out⟩, ⟨by (with_reducible repeat (first | refine blk_drewN ?_ _ | refine blk_drew ?_ | refine blk_alloc ?_ _)); exact BK217.out⟩, ⟨nH3 HB.out GE210.out GE211.out GE217.out⟩⟩
         case round =>
          clear H'
          try clear c1; try clear c2; try clear p2; try clear q2; try clear hx2; try clear c3; try clear c4; try clear c5; try clear p6; try clear c9; try clear c13; try clear c14; try clear c17; try clear c18; try clear c19; try clear c19b0; try clear c20; try clear c21; try clear p22; try clear q22; try clear hx22; try clear c24; try clear c25; try clear c29; try clear c30; try clear c33; try clear c35; try clear c36; try clear c39; try clear c42; try clear c42b0; try clear c43; try clear c43b0; try clear c44; try clear c44b0; try clear c44b1; try clear c45; try clear c46; try clear c48; try clear c50
          try clear c51; try clear c52; try clear c55; try clear c56; try clear c58; try clear hcz10_0; try clear hcz10_1; try clear hcz10_2; try clear hcz15_0; try clear hcz15_1; try clear hcz15_2; try clear hcz22_0; try clear hcz22_1; try clear hcz22_2; try clear hcz26_0; try clear hcz26_1; try clear hcz26_2; try clear hcz28_0; try clear hcz28_1; try clear hcz28_2; try clear hcz31_0; try clear hcz31_1; try clear hcz31_2; try clear hcz37_0; try clear hcz37_1; try clear hcz37_2; try clear hcz40_0; try clear hcz40_1; try clear hcz40_2; try clear hcz47_0; try clear hcz47_1; try clear hcz47_2; try clear hcz49_0
          try clear hcz49_1; try clear hcz49_2; try clear hcz50_0; try clear hcz50_1; try clear hcz50_2; try clear hcz53_0; try clear hcz53_1; try clear hcz53_2; try clear hcz57_0; try clear hcz57_1; try clear hcz57_2; try clear hfz10_0; try clear hfz10_1; try clear hfz10_2; try clear hfz15_0; try clear hfz15_1; try clear hfz15_2; try clear hfz22_0; try clear hfz22_1; try clear hfz22_2; try clear hfz26_0; try clear hfz26_1; try clear hfz26_2; try clear hfz28_0; try clear hfz28_1; try clear hfz28_2; try clear hfz31_0; try clear hfz31_1; try clear hfz31_2; try clear hfz37_0; try clear hfz37_1; try clear hfz37_2
          try clear hfz40_0; try clear hfz40_1; try clear hfz40_2; try clear hfz47_0; try clear hfz47_1; try clear hfz47_2; try clear hfz49_0; try clear hfz49_1; try clear hfz49_2; try clear hfz50_0; try clear hfz50_1; try clear hfz50_2; try clear hfz53_0; try clear hfz53_1; try clear hfz53_2; try clear hfz57_0; try clear hfz57_1; try clear hfz57_2; try clear hx224_0; try clear hx224_1; try clear hx224_2; try clear hx224_3; try clear p2; try clear p224; try clear p6; try clear q224
          obtain ⟨x13_3, x14_3, rfl, rfl, HA, HK3, HO_12, HO_218002, BK210, BK211, BK217, HB⟩ := hrel
          cases gk with
          | zero => exact absurd HA.out (by simp [spec_Book.l1])
          | succ k3 =>
           have H := HA.out; clear HA
           simp only [spec_Book.l1] at H
           by_cases c59 : x14_3 < (t225.length : Int)
           · rw [if_pos c59] at H
             have c59b0 : decide (x14_3 < (t225.length : Int)) = true := decide_eq_true c59
             clear c59
             by_cases c60 : x13_3 < 0
             · rw [if_pos c60] at H
               have c60b0 : decide (x13_3 < 0) = true := decide_eq_true c60
               clear c60
               by_cases c61 : 0 ≤ x14_3
               rotate_left
               · (rw [if_neg c61] at H; exact absurd H (by simp))
               rw [if_pos c61] at H
               have c61b0 : decide (0 ≤ x14_3) = true := decide_eq_true c61
               clear c61
               have H' := Aside0.mk H
               clear H
               obtain ⟨Ao62, co62, eo62⟩ := Kd.R_slice HO_12.out
               subst eo62
               try go_wp2
               have n0_ := Aside0.mk (Kd.R_drew HO_12.out)
               have n1_ := Aside0.mk (Kd.R_drew HO_218002.out)
               have n2_ := Aside0.mk (blk_drew BK210.out)
               have n3_ := Aside0.mk (blk_drew BK211.out)
               have n4_ := Aside0.mk (blk_drew BK217.out)
               have n5_ := Aside0.mk (below_drew1 HB.out)
               clear HO_12; clear HO_218002; clear BK210; clear BK211; clear BK217; clear HB; have HO_12 := n0_; have HO_218002 := n1_; have BK210 := n2_; have BK211 := n3_; have BK217 := n4_; have HB := n5_; clear n0_ n1_ n2_ n3_ n4_ n5_
               refine start_ (n := 18) (S := fun w' => True) (ds := []) #[F,F,F,F,F,F,F,F,F,F,F,F,F,F,F,F,F,F] (by kernel_rfl) rfl rfl trivial (fun hHeld => ?_); refine with_tabW spec_Book.tab14 spec_Book.bits14 (fun HT_ HW_ => ?_)
               generalize wr.drew = w63 at HO_12 HO_218002 BK210 BK211 BK217 HB hHeld ⊢
               refine pU 0 (some 61) #[T,F,F,F,F,F,F,F,F,F,F,F,F,F,F,F,F,F] rfl rfl HT_.out ?_
               refine pU 1 (some 62) #[T,T,F,F,F,F,F,F,F,F,F,F,F,F,F,F,F,F] rfl rfl HT_.out ?_
               refine pU 2 (some 63) #[T,T,T,F,F,F,F,F,F,F,F,F,F,F,F,F,F,F] rfl rfl HT_.out ?_
               refine pV 3 (some 64) #[T,T,T,T,F,F,F,F,F,F,F,F,F,F,F,F,F,F] rfl rfl HT_.out ?_
               refine pV 4 (some 65) #[T,T,T,T,T,F,F,F,F,F,F,F,F,F,F,F,F,F] rfl rfl HT_.out ?_
               refine pV 5 (some 66) #[T,T,T,T,T,T,F,F,F,F,F,F,F,F,F,F,F,F] rfl rfl HT_.out ?_
               refine pV 6 (some 67) #[T,T,T,T,T,T,T,F,F,F,F,F,F,F,F,F,F,F] rfl rfl HT_.out ?_
               refine pV 7 (some 68) #[T,T,T,T,T,T,T,T,F,F,F,F,F,F,F,F,F,F] rfl rfl HT_.out ?_
               refine pV 8 (some 69) #[T,T,T,T,T,T,T,T,T,F,F,F,F,F,F,F,F,F] rfl rfl HT_.out ?_
               refine pV 9 (some 70) #[T,T,T,T,T,T,T,T,T,T,F,F,F,F,F,F,F,F] rfl rfl HT_.out ?_
               refine pV 10 (some 71) #[T,T,T,T,T,T,T,T,T,T,T,F,F,F,F,F,F,F] rfl rfl HT_.out ?_
               refine pV 11 (some 72) #[T,T,T,T,T,T,T,T,T,T,T,T,F,F,F,F,F,F] rfl rfl HT_.out ?_
               refine pV 12 (some 73) #[T,T,T,T,T,T,T,T,T,T,T,T,T,F,F,F,F,F] rfl rfl HT_.out ?_
               refine pV 13 (some 74) #[T,T,T,T,T,T,T,T,T,T,T,T,T,T,F,F,F,F] rfl rfl HT_.out ?_
               refine pV 14 (some 75) #[T,T,T,T,T,T,T,T,T,T,T,T,T,T,T,F,F,F] rfl rfl HT_.out ?_
               refine pV 15 (some 76) #[T,T,T,T,T,T,T,T,T,T,T,T,T,T,T,T,F,F] rfl rfl HT_.out ?_
               refine pV 16 (some 77) #[T,T,T,T,T,T,T,T,T,T,T,T,T,T,T,T,T,F] rfl rfl HT_.out ?_
               refine pU 17 (some 78) #[T,T,T,T,T,T,T,T,T,T,T,T,T,T,T,T,T,T] rfl rfl HT_.out ?_
               refine done_ (done_of HT_.out (by kernel_rfl)) ?_
               have p233 : 0 ≤ (x14_3 : Int) := of_decide_eq_true nQ
               have q233 : x14_3 < (t225.length : Int) := of_decide_eq_true nQ
               obtain ⟨ad233, e233, hx233_0⟩ := Kd.at_int (Kd.R_reads' HO_12.out).2.2 x14_3 p233 q233
               cases e233; replace p233 := eq_true p233; replace q233 := eq_true q233
               try go_wp2
               go_roundg k3
               case measure => have := HJ5.out; have := HK2.out; have := HK3.out; omega
               case rel => exact ⟨(rd t225 x14_3), (wrap64 (x14_3 + 1)), nS, nS, H', ⟨by have := HJ5.out; have := HK2.out; have := HK3.out; omega⟩, ⟨by (with_reducible repeat (first | apply Kd.R_alloc | apply Kd.R_drewN | apply Kd.R_drew)); exact HO_12.out⟩, ⟨by (with_reducible repeat (first | apply Kd.R_alloc | apply Kd.R_drewN | apply Kd.R_drew)); exact HO_218002.out⟩, ⟨by (with_reducible repeat (first | refine blk_drewN ?_ _ | refine blk_drew ?_ | refine blk_alloc ?_ _)); exact BK210.out⟩, ⟨by (with_reducible repeat (first | refine blk_drewN ?_ _ | refine blk_drew ?_ | refine blk_alloc ?_ _)); exact BK211.out⟩, ⟨by (with_reducible repeat (first | refine blk_drewN ?_ _ | refine blk_drew ?_ | refine blk_alloc ?_ _)); exact BK217.out⟩, ⟨nH3 HB.out GE210.out GE211.out GE217.out⟩⟩
             · rw [if_neg c60] at H
               have c60b0 : decide (x13_3 < 0) = false := decide_eq_false c60
               clear c60
               by_cases c64 : 0 ≤ x14_3
               rotate_left
               · (rw [if_neg c64] at H; exact absurd H (by simp))
               rw [if_pos c64] at H
               have c64b0 : decide (0 ≤ x14_3) = true := decide_eq_true c64
               clear c64
               replace H := Option.bind_eq_some_iff.mp H
               obtain ⟨t235, A650, H⟩ := H
               replace H : ((spec_Hole.f k3 a0_0 a0_1 l0_2 x13_3 a2 a3).bind fun t236 => (if t235 < t236 then (spec_Book.l1 k3 a1 a2 a3 t225 (rd t225 x14_3) (wrap64 (x14_3 + 1)) a0_0 a0_1 l0_2 t212 t213 t214) else (spec_Book.l1 k3 a1 a2 a3 t225 x13_3 (wrap64 (x14_3 + 1)) a0_0 a0_1 l0_2 t212 t213 t214))) = some (r1, r2, r3, r4) := H
               have A65 := Aside0.mk A650
               clear A650
               replace H := Option.bind_eq_some_iff.mp H
               obtain ⟨t236, A660, H⟩ := H
               replace H : (if t235 < t236 then (spec_Book.l1 k3 a1 a2 a3 t225 (rd t225 x14_3) (wrap64 (x14_3 + 1)) a0_0 a0_1 l0_2 t212 t213 t214) else (spec_Book.l1 k3 a1 a2 a3 t225 x13_3 (wrap64 (x14_3 + 1)) a0_0 a0_1 l0_2 t212 t213 t214)) = some (r1, r2, r3, r4) := H
               have A66 := Aside0.mk A660
               clear A660
               by_cases c67 : t235 < t236
               · rw [if_pos c67] at H
                 have c67b0 : decide (t235 < t236) = true := decide_eq_true c67
                 clear c67
                 have H' := Aside0.mk H
                 clear H
                 obtain ⟨Ao68, co68, eo68⟩ := Kd.R_slice HO_12.out
                 subst eo68
                 try go_wp2
                 have n0_ := Aside0.mk (Kd.R_drew HO_12.out)
                 have n1_ := Aside0.mk (Kd.R_drew HO_218002.out)
                 have n2_ := Aside0.mk (blk_drew BK210.out)
                 have n3_ := Aside0.mk (blk_drew BK211.out)
                 have n4_ := Aside0.mk (blk_drew BK217.out)
                 have n5_ := Aside0.mk (below_drew1 HB.out)
                 clear HO_12; clear HO_218002; clear BK210; clear BK211; clear BK217; clear HB; have HO_12 := n0_; have HO_218002 := n1_; have BK210 := n2_; have BK211 := n3_; have BK217 := n4_; have HB := n5_; clear n0_ n1_ n2_ n3_ n4_ n5_
                 have p234 : 0 ≤ (x14_3 : Int) := of_decide_eq_true nQ
                 have q234 : x14_3 < (t225.length : Int) := of_decide_eq_true nQ
                 obtain ⟨ad234, e234, hx234_0⟩ := Kd.at_int (Kd.R_reads' HO_12.out).2.2 x14_3 p234 q234
                 cases e234; replace p234 := eq_true p234; replace q234 := eq_true q234
                 refine start_ (n := 18) (S := fun w' => w'.cell? ⟨gb210, 0, none⟩ = some (.int .i64 a0_0) ∧ w'.cell? ⟨gb210, 1, none⟩ = some (.int .i64 a0_1) ∧ w'.cell? ⟨gb210, 2, none⟩ = some (.slice A0_2 l0_2.length c0_2) ∧ w'.cell? (ad234.add (x14_3).toNat) = some (.int .i64 (rd t225 x14_3))) (ds := []) #[F,F,F,F,F,F,F,F,F,F,F,F,F,F,F,F,F,F] (by kernel_rfl) rfl rfl ⟨(blk_cell BK210.out 0).trans rfl, (blk_cell BK210.out 1).trans rfl, (blk_cell BK210.out 2).trans rfl, hx234_0⟩ (fun hHeld => ?_); refine with_tabW spec_Book.tab14 spec_Book.bits14 (fun HT_ HW_ => ?_)
                 generalize wr.drew = w69 at HO_12 HO_218002 BK210 BK211 BK217 HB hx234_0 hHeld ⊢
                 refine pU 0 (some 61) #[T,F,F,F,F,F,F,F,F,F,F,F,F,F,F,F,F,F] rfl rfl HT_.out ?_
                 refine pU 1 (some 62) #[T,T,F,F,F,F,F,F,F,F,F,F,F,F,F,F,F,F] rfl rfl HT_.out ?_
                 refine pU 2 (some 63) #[T,T,T,F,F,F,F,F,F,F,F,F,F,F,F,F,F,F] rfl rfl HT_.out ?_
                 refine pU 4 (some 65) #[T,T,T,F,T,F,F,F,F,F,F,F,F,F,F,F,F,F] rfl rfl HT_.out ?_
                 refine pU 5 (some 66) #[T,T,T,F,T,T,F,F,F,F,F,F,F,F,F,F,F,F] rfl rfl HT_.out ?_
                 refine pU 6 (some 67) #[T,T,T,F,T,T,T,F,F,F,F,F,F,F,F,F,F,F] rfl rfl HT_.out ?_
                 refine pU 8 (some 69) #[T,T,T,F,T,T,T,F,T,F,F,F,F,F,F,F,F,F] rfl rfl HT_.out ?_
                 refine pU 9 (some 70) #[T,T,T,F,T,T,T,F,T,T,F,F,F,F,F,F,F,F] rfl rfl HT_.out ?_
                 refine pU 12 (some 73) #[T,T,T,F,T,T,T,F,T,T,F,F,T,F,F,F,F,F] rfl rfl HT_.out ?_
                 refine pU 13 (some 74) #[T,T,T,F,T,T,T,F,T,T,F,F,T,T,F,F,F,F] rfl rfl HT_.out ?_
                 refine pU 14 (some 75) #[T,T,T,F,T,T,T,F,T,T,F,F,T,T,T,F,F,F] rfl rfl HT_.out ?_
                 refine tU4 3 (some 64) #[T,T,T,T,T,T,T,F,T,T,F,F,T,T,T,F,F,F] rfl rfl HT_.out HW_.out hHeld ?_
                 refine tU4 7 (some 68) #[T,T,T,T,T,T,T,T,T,T,F,F,T,T,T,F,F,F] rfl rfl HT_.out HW_.out hHeld ?_
                 refine tU4 11 (some 72) #[T,T,T,T,T,T,T,T,T,T,F,T,T,T,T,F,F,F] rfl rfl HT_.out HW_.out hHeld ?_
                 refine one_ (i := 10) (N := some 71) #[T,T,T,T,T,T,T,T,T,T,T,T,T,T,T,F,F,F] rfl rfl (one_of HT_.out (by kernel_rfl)) (by decide) (fun K hK => ?_)
                 refine goes_ Try.func23 (by kernel_rfl) rfl #[.agg #[.int .i64 a0_0, .int .i64 a0_1, .slice A0_2 l0_2.length c0_2], .int .i64 (rd t225 x14_3), .int .i64 a2, .int .i64 a3] (by rfl) rfl rfl (by (try simp only [List.map_toArray, List.map_cons, List.map_nil]); first | done | rfl | (simp only [List.length_drop, List.length_take]; rfl)) ?_
                 with_reducible refine (spec_Hole.calls k3 a0_0 a0_1 _ _ l0_2 (rd t225 x14_3) a2 a3 t235 _ ?side1 ?side2 A65.out).mono ?_
                 (case side1 => repeat (first | exact (Kd.C_below HR0_2.out HB.out) | (with_reducible refine Kd.C_alloc ?_ _) | (with_reducible refine Kd.C_drewN ?_ _) | (with_reducible refine Kd.C_drew ?_)))
                 (case side2 => exact HC0_2.out)
                 rintro e w70 ⟨rfl, hb⟩
                 have HS3_ := (hb.cell (World.block_lt_of_cell? _ _ (hHeld.2.2.2))).trans (hHeld.2.2.2)
                 refine ⟨_, rfl, ?_⟩
                 have n0_ := Aside0.mk (Kd.R_below (nR HO_12.out) hb)
                 have n1_ := Aside0.mk (Kd.R_below (nR HO_218002.out) hb)
                 have n2_ := Aside0.mk (blk_below (g := gb210) (o := .cells #[.int .i64 a0_0, .int .i64 a0_1, .slice A0_2 l0_2.length c0_2] 29 (0, 0)) (nB BK210.out) hb)
                 have n3_ := Aside0.mk (blk_below (g := gb211) (o := .cells #[.int .i64 x212000_2, .int .i64 x212001_2, .slice none 0 0] 29 (0, 0)) (nB BK211.out) hb)
                 have n4_ := Aside0.mk (blk_below (g := gb217) (o := .cells #[.int .i64 t212, .int .i64 t213, .slice Ao16 t214.length co16] 29 (0, 0)) (nB BK217.out) hb)
                 have n5_ := Aside0.mk (below_step (nH3 HB.out GE210.out GE211.out GE217.out) hb)
                 clear HO_12; clear HO_218002; clear BK210; clear BK211; clear BK217; clear HB; have HO_12 := n0_; have HO_218002 := n1_; have BK210 := n2_; have BK211 := n3_; have BK217 := n4_; have HB := n5_; clear n0_ n1_ n2_ n3_ n4_ n5_; (try clear hb); (try clear hb2); (try clear hk); (try clear hi)
                 refine hK.out _ _ ⟨(blk_cell BK210.out 0).trans rfl, (blk_cell BK210.out 1).trans rfl, (blk_cell BK210.out 2).trans rfl, HS3_⟩ (fun hHeld => ?_)
                 clear hK K
                 refine norm_ (a' := ?_) ?_ ?_
                 rotate_left
                 · show Act.put _ (some 71) _ = _
                   simp only [Act.put, List.setIfInBounds_toArray, List.set_cons_zero, List.set_cons_succ, i64_w, i32_w]
                   rfl
                 refine one_ (i := 15) (N := some 76) #[T,T,T,T,T,T,T,T,T,T,T,T,T,T,T,T,F,F] rfl rfl (one_of HT_.out (by kernel_rfl)) (by decide) (fun K hK => ?_)
                 refine goes_ Try.func23 (by kernel_rfl) rfl #[.agg #[.int .i64 a0_0, .int .i64 a0_1, .slice A0_2 l0_2.length c0_2], .int .i64 x13_3, .int .i64 a2, .int .i64 a3] (by rfl) rfl rfl (by (try simp only [List.map_toArray, List.map_cons, List.map_nil]); first | done | rfl | (simp only [List.length_drop, List.length_take]; rfl)) ?_
                 with_reducible refine (spec_Hole.calls k3 a0_0 a0_1 _ _ l0_2 x13_3 a2 a3 t236 _ ?side1 ?side2 A66.out).mono ?_
                 (case side1 => repeat (first | exact (Kd.C_below HR0_2.out HB.out) | (with_reducible refine Kd.C_alloc ?_ _) | (with_reducible refine Kd.C_drewN ?_ _) | (with_reducible refine Kd.C_drew ?_)))
                 (case side2 => exact HC0_2.out)
                 rintro e w71 ⟨rfl, hb⟩
                 have HS3_ := (hb.cell (World.block_lt_of_cell? _ _ (hHeld.2.2.2))).trans (hHeld.2.2.2)
                 refine ⟨_, rfl, ?_⟩
                 have n0_ := Aside0.mk (Kd.R_below (nR HO_12.out) hb)
                 have n1_ := Aside0.mk (Kd.R_below (nR HO_218002.out) hb)
                 have n2_ := Aside0.mk (blk_below (g := gb210) (o := .cells #[.int .i64 a0_0, .int .i64 a0_1, .slice A0_2 l0_2.length c0_2] 29 (0, 0)) (nB BK210.out) hb)
                 have n3_ := Aside0.mk (blk_below (g := gb211) (o := .cells #[.int .i64 x212000_2, .int .i64 x212001_2, .slice none 0 0] 29 (0, 0)) (nB BK211.out) hb)
                 have n4_ := Aside0.mk (blk_below (g := gb217) (o := .cells #[.int .i64 t212, .int .i64 t213, .slice Ao16 t214.length co16] 29 (0, 0)) (nB BK217.out) hb)
                 have n5_ := Aside0.mk (below_step (nH3 HB.out GE210.out GE211.out GE217.out) hb)
                 clear HO_12; clear HO_218002; clear BK210; clear BK211; clear BK217; clear HB; have HO_12 := n0_; have HO_218002 := n1_; have BK210 := n2_; have BK211 := n3_; have BK217 := n4_; have HB := n5_; clear n0_ n1_ n2_ n3_ n4_ n5_; (try clear hb); (try clear hb2); (try clear hk); (try clear hi)
                 refine hK.out _ _ ⟨(blk_cell BK210.out 0).trans rfl, (blk_cell BK210.out 1).trans rfl, (blk_cell BK210.out 2).trans rfl, HS3_⟩ (fun hHeld => ?_)
                 clear hK K
                 refine norm_ (a' := ?_) ?_ ?_
                 rotate_left
                 · show Act.put _ (some 76) _ = _
                   simp only [Act.put, List.setIfInBounds_toArray, List.set_cons_zero, List.set_cons_succ, i64_w, i32_w]
                   rfl
                 refine pU 16 (some 77) #[T,T,T,T,T,T,T,T,T,T,T,T,T,T,T,T,T,F] rfl rfl HT_.out ?_
                 refine pU 17 (some 78) #[T,T,T,T,T,T,T,T,T,T,T,T,T,T,T,T,T,T] rfl rfl HT_.out ?_
                 refine done_ (done_of HT_.out (by kernel_rfl)) ?_
                 have p237 : 0 ≤ (x14_3 : Int) := of_decide_eq_true nQ
                 have q237 : x14_3 < (t225.length : Int) := of_decide_eq_true nQ
                 obtain ⟨ad237, e237, hx237_0⟩ := Kd.at_int (Kd.R_reads' HO_12.out).2.2 x14_3 p237 q237
                 obtain rfl : ad234 = ad237 := (by injection e237)
                 replace p237 := eq_true p237; replace q237 := eq_true q237
                 try go_wp2
                 go_roundg k3
                 case measure => have := HJ5.out; have := HK2.out; have := HK3.out; omega
                 case rel => exact ⟨(rd t225 x14_3), (wrap64 (x14_3 + 1)), nS, nS, H', ⟨by have := HJ5.out; have := HK2.out; have := HK3.out; omega⟩, ⟨by (with_reducible repeat (first | apply Kd.R_alloc | apply Kd.R_drewN | apply Kd.R_drew)); exact HO_12.out⟩, ⟨by (with_reducible repeat (first | apply Kd.R_alloc | apply Kd.R_drewN | apply Kd.R_drew)); exact HO_218002.out⟩, ⟨by (with_reducible repeat (first | refine blk_drewN ?_ _ | refine blk_drew ?_ | refine blk_alloc ?_ _)); exact BK210.out⟩, ⟨by (with_reducible repeat (first | refine blk_drewN ?_ _ | refine blk_drew ?_ | refine blk_alloc ?_ _)); exact BK211.out⟩, ⟨by (with_reducible repeat (first | refine blk_drewN ?_ _ | refine blk_drew ?_ | refine blk_alloc ?_ _)); exact BK217.out⟩, ⟨nH3 HB.out GE210.out GE211.out GE217.out⟩⟩
               · rw [if_neg c67] at H
                 have c67b0 : decide (t235 < t236) = false := decide_eq_false c67
                 clear c67
                 have H' := Aside0.mk H
                 clear H
                 obtain ⟨Ao72, co72, eo72⟩ := Kd.R_slice HO_12.out
                 subst eo72
                 try go_wp2
                 have n0_ := Aside0.mk (Kd.R_drew HO_12.out)
                 have n1_ := Aside0.mk (Kd.R_drew HO_218002.out)
                 have n2_ := Aside0.mk (blk_drew BK210.out)
                 have n3_ := Aside0.mk (blk_drew BK211.out)
                 have n4_ := Aside0.mk (blk_drew BK217.out)
                 have n5_ := Aside0.mk (below_drew1 HB.out)
                 clear HO_12; clear HO_218002; clear BK210; clear BK211; clear BK217; clear HB; have HO_12 := n0_; have HO_218002 := n1_; have BK210 := n2_; have BK211 := n3_; have BK217 := n4_; have HB := n5_; clear n0_ n1_ n2_ n3_ n4_ n5_
                 have p234 : 0 ≤ (x14_3 : Int) := of_decide_eq_true nQ
                 have q234 : x14_3 < (t225.length : Int) := of_decide_eq_true nQ
                 obtain ⟨ad234, e234, hx234_0⟩ := Kd.at_int (Kd.R_reads' HO_12.out).2.2 x14_3 p234 q234
                 cases e234; replace p234 := eq_true p234; replace q234 := eq_true q234
                 refine start_ (n := 18) (S := fun w' => w'.cell? ⟨gb210, 0, none⟩ = some (.int .i64 a0_0) ∧ w'.cell? ⟨gb210, 1, none⟩ = some (.int .i64 a0_1) ∧ w'.cell? ⟨gb210, 2, none⟩ = some (.slice A0_2 l0_2.length c0_2) ∧ w'.cell? (ad234.add (x14_3).toNat) = some (.int .i64 (rd t225 x14_3))) (ds := []) #[F,F,F,F,F,F,F,F,F,F,F,F,F,F,F,F,F,F] (by kernel_rfl) rfl rfl ⟨(blk_cell BK210.out 0).trans rfl, (blk_cell BK210.out 1).trans rfl, (blk_cell BK210.out 2).trans rfl, hx234_0⟩ (fun hHeld => ?_); refine with_tabW spec_Book.tab14 spec_Book.bits14 (fun HT_ HW_ => ?_)
                 generalize wr.drew = w73 at HO_12 HO_218002 BK210 BK211 BK217 HB hx234_0 hHeld ⊢
                 refine pU 0 (some 61) #[T,F,F,F,F,F,F,F,F,F,F,F,F,F,F,F,F,F] rfl rfl HT_.out ?_
                 refine pU 1 (some 62) #[T,T,F,F,F,F,F,F,F,F,F,F,F,F,F,F,F,F] rfl rfl HT_.out ?_
                 refine pU 2 (some 63) #[T,T,T,F,F,F,F,F,F,F,F,F,F,F,F,F,F,F] rfl rfl HT_.out ?_
                 refine pU 4 (some 65) #[T,T,T,F,T,F,F,F,F,F,F,F,F,F,F,F,F,F] rfl rfl HT_.out ?_
                 refine pU 5 (some 66) #[T,T,T,F,T,T,F,F,F,F,F,F,F,F,F,F,F,F] rfl rfl HT_.out ?_
                 refine pU 6 (some 67) #[T,T,T,F,T,T,T,F,F,F,F,F,F,F,F,F,F,F] rfl rfl HT_.out ?_
                 refine pU 8 (some 69) #[T,T,T,F,T,T,T,F,T,F,F,F,F,F,F,F,F,F] rfl rfl HT_.out ?_
                 refine pU 9 (some 70) #[T,T,T,F,T,T,T,F,T,T,F,F,F,F,F,F,F,F] rfl rfl HT_.out ?_
                 refine pU 12 (some 73) #[T,T,T,F,T,T,T,F,T,T,F,F,T,F,F,F,F,F] rfl rfl HT_.out ?_
                 refine pU 13 (some 74) #[T,T,T,F,T,T,T,F,T,T,F,F,T,T,F,F,F,F] rfl rfl HT_.out ?_
                 refine pU 14 (some 75) #[T,T,T,F,T,T,T,F,T,T,F,F,T,T,T,F,F,F] rfl rfl HT_.out ?_
                 refine tU4 3 (some 64) #[T,T,T,T,T,T,T,F,T,T,F,F,T,T,T,F,F,F] rfl rfl HT_.out HW_.out hHeld ?_
                 refine tU4 7 (some 68) #[T,T,T,T,T,T,T,T,T,T,F,F,T,T,T,F,F,F] rfl rfl HT_.out HW_.out hHeld ?_
                 refine tU4 11 (some 72) #[T,T,T,T,T,T,T,T,T,T,F,T,T,T,T,F,F,F] rfl rfl HT_.out HW_.out hHeld ?_
                 refine one_ (i := 10) (N := some 71) #[T,T,T,T,T,T,T,T,T,T,T,T,T,T,T,F,F,F] rfl rfl (one_of HT_.out (by kernel_rfl)) (by decide) (fun K hK => ?_)
                 refine goes_ Try.func23 (by kernel_rfl) rfl #[.agg #[.int .i64 a0_0, .int .i64 a0_1, .slice A0_2 l0_2.length c0_2], .int .i64 (rd t225 x14_3), .int .i64 a2, .int .i64 a3] (by rfl) rfl rfl (by (try simp only [List.map_toArray, List.map_cons, List.map_nil]); first | done | rfl | (simp only [List.length_drop, List.length_take]; rfl)) ?_
                 with_reducible refine (spec_Hole.calls k3 a0_0 a0_1 _ _ l0_2 (rd t225 x14_3) a2 a3 t235 _ ?side1 ?side2 A65.out).mono ?_
                 (case side1 => repeat (first | exact (Kd.C_below HR0_2.out HB.out) | (with_reducible refine Kd.C_alloc ?_ _) | (with_reducible refine Kd.C_drewN ?_ _) | (with_reducible refine Kd.C_drew ?_)))
                 (case side2 => exact HC0_2.out)
                 rintro e w74 ⟨rfl, hb⟩
                 have HS3_ := (hb.cell (World.block_lt_of_cell? _ _ (hHeld.2.2.2))).trans (hHeld.2.2.2)
                 refine ⟨_, rfl, ?_⟩
                 have n0_ := Aside0.mk (Kd.R_below (nR HO_12.out) hb)
                 have n1_ := Aside0.mk (Kd.R_below (nR HO_218002.out) hb)
                 have n2_ := Aside0.mk (blk_below (g := gb210) (o := .cells #[.int .i64 a0_0, .int .i64 a0_1, .slice A0_2 l0_2.length c0_2] 29 (0, 0)) (nB BK210.out) hb)
                 have n3_ := Aside0.mk (blk_below (g := gb211) (o := .cells #[.int .i64 x212000_2, .int .i64 x212001_2, .slice none 0 0] 29 (0, 0)) (nB BK211.out) hb)
                 have n4_ := Aside0.mk (blk_below (g := gb217) (o := .cells #[.int .i64 t212, .int .i64 t213, .slice Ao16 t214.length co16] 29 (0, 0)) (nB BK217.out) hb)
                 have n5_ := Aside0.mk (below_step (nH3 HB.out GE210.out GE211.out GE217.out) hb)
                 clear HO_12; clear HO_218002; clear BK210; clear BK211; clear BK217; clear HB; have HO_12 := n0_; have HO_218002 := n1_; have BK210 := n2_; have BK211 := n3_; have BK217 := n4_; have HB := n5_; clear n0_ n1_ n2_ n3_ n4_ n5_; (try clear hb); (try clear hb2); (try clear hk); (try clear hi)
                 refine hK.out _ _ ⟨(blk_cell BK210.out 0).trans rfl, (blk_cell BK210.out 1).trans rfl, (blk_cell BK210.out 2).trans rfl, HS3_⟩ (fun hHeld => ?_)
                 clear hK K
                 refine norm_ (a' := ?_) ?_ ?_
                 rotate_left
                 · show Act.put _ (some 71) _ = _
                   simp only [Act.put, List.setIfInBounds_toArray, List.set_cons_zero, List.set_cons_succ, i64_w, i32_w]
                   rfl
                 refine one_ (i := 15) (N := some 76) #[T,T,T,T,T,T,T,T,T,T,T,T,T,T,T,T,F,F] rfl rfl (one_of HT_.out (by kernel_rfl)) (by decide) (fun K hK => ?_)
                 refine goes_ Try.func23 (by kernel_rfl) rfl #[.agg #[.int .i64 a0_0, .int .i64 a0_1, .slice A0_2 l0_2.length c0_2], .int .i64 x13_3, .int .i64 a2, .int .i64 a3] (by rfl) rfl rfl (by (try simp only [List.map_toArray, List.map_cons, List.map_nil]); first | done | rfl | (simp only [List.length_drop, List.length_take]; rfl)) ?_
                 with_reducible refine (spec_Hole.calls k3 a0_0 a0_1 _ _ l0_2 x13_3 a2 a3 t236 _ ?side1 ?side2 A66.out).mono ?_
                 (case side1 => repeat (first | exact (Kd.C_below HR0_2.out HB.out) | (with_reducible refine Kd.C_alloc ?_ _) | (with_reducible refine Kd.C_drewN ?_ _) | (with_reducible refine Kd.C_drew ?_)))
                 (case side2 => exact HC0_2.out)
                 rintro e w75 ⟨rfl, hb⟩
                 have HS3_ := (hb.cell (World.block_lt_of_cell? _ _ (hHeld.2.2.2))).trans (hHeld.2.2.2)
                 refine ⟨_, rfl, ?_⟩
                 have n0_ := Aside0.mk (Kd.R_below (nR HO_12.out) hb)
                 have n1_ := Aside0.mk (Kd.R_below (nR HO_218002.out) hb)
                 have n2_ := Aside0.mk (blk_below (g := gb210) (o := .cells #[.int .i64 a0_0, .int .i64 a0_1, .slice A0_2 l0_2.length c0_2] 29 (0, 0)) (nB BK210.out) hb)
                 have n3_ := Aside0.mk (blk_below (g := gb211) (o := .cells #[.int .i64 x212000_2, .int .i64 x212001_2, .slice none 0 0] 29 (0, 0)) (nB BK211.out) hb)
                 have n4_ := Aside0.mk (blk_below (g := gb217) (o := .cells #[.int .i64 t212, .int .i64 t213, .slice Ao16 t214.length co16] 29 (0, 0)) (nB BK217.out) hb)
                 have n5_ := Aside0.mk (below_step (nH3 HB.out GE210.out GE211.out GE217.out) hb)
                 clear HO_12; clear HO_218002; clear BK210; clear BK211; clear BK217; clear HB; have HO_12 := n0_; have HO_218002 := n1_; have BK210 := n2_; have BK211 := n3_; have BK217 := n4_; have HB := n5_; clear n0_ n1_ n2_ n3_ n4_ n5_; (try clear hb); (try clear hb2); (try clear hk); (try clear hi)
                 refine hK.out _ _ ⟨(blk_cell BK210.out 0).trans rfl, (blk_cell BK210.out 1).trans rfl, (blk_cell BK210.out 2).trans rfl, HS3_⟩ (fun hHeld => ?_)
                 clear hK K
                 refine norm_ (a' := ?_) ?_ ?_
                 rotate_left
                 · show Act.put _ (some 76) _ = _
                   simp only [Act.put, List.setIfInBounds_toArray, List.set_cons_zero, List.set_cons_succ, i64_w, i32_w]
                   rfl
                 refine pU 16 (some 77) #[T,T,T,T,T,T,T,T,T,T,T,T,T,T,T,T,T,F] rfl rfl HT_.out ?_
                 refine pU 17 (some 78) #[T,T,T,T,T,T,T,T,T,T,T,T,T,T,T,T,T,T] rfl rfl HT_.out ?_
                 refine done_ (done_of HT_.out (by kernel_rfl)) ?_
                 try go_wp2
                 go_roundg k3
                 case measure => have := HJ5.out; have := HK2.out; have := HK3.out; omega
                 case rel => exact ⟨(x13_3), (wrap64 (x14_3 + 1)), nS, nS, H', ⟨by have := HJ5.out; have := HK2.out; have := HK3.out; omega⟩, ⟨by (with_reducible repeat (first | apply Kd.R_alloc | apply Kd.R_drewN | apply Kd.R_drew)); exact HO_12.out⟩, ⟨by (with_reducible repeat (first | apply Kd.R_alloc | apply Kd.R_drewN | apply Kd.R_drew)); exact HO_218002.out⟩, ⟨by (with_reducible repeat (first | refine blk_drewN ?_ _ | refine blk_drew ?_ | refine blk_alloc ?_ _)); exact BK210.out⟩, ⟨by (with_reducible repeat (first | refine blk_drewN ?_ _ | refine blk_drew ?_ | refine blk_alloc ?_ _)); exact BK211.out⟩, ⟨by (with_reducible repeat (first | refine blk_drewN ?_ _ | refine blk_drew ?_ | refine blk_alloc ?_ _)); exact BK217.out⟩, ⟨nH3 HB.out GE210.out GE211.out GE217.out⟩⟩
           · rw [if_neg c59] at H
             have c59b0 : decide (x14_3 < (t225.length : Int)) = false := decide_eq_false c59
             clear c59
             by_cases c76 : x13_3 < 0
             · rw [if_pos c76] at H
               have c76b0 : decide (x13_3 < 0) = true := decide_eq_true c76
               clear c76
               simp only [Option.some.injEq, Prod.mk.injEq] at H
               obtain ⟨rfl, rfl, rfl, rfl⟩ := H
               obtain ⟨Ao77, co77, eo77⟩ := Kd.R_slice HO_12.out
               subst eo77
               have hnb78 := NB217_210.out; have hnc78 := NB210_217.out; have hnb79 := NB217_211.out; have hnc79 := NB211_217.out
               have hcz80_0 : wr.cell? ⟨gb217, 0, none⟩ = some (.int .i64 t212) := (blk_cell BK217.out 0).trans rfl
               have hcz80_1 : wr.cell? ⟨gb217, 1, none⟩ = some (.int .i64 t213) := (blk_cell BK217.out 1).trans rfl
               have hcz80_2 : wr.cell? ⟨gb217, 2, none⟩ = some (.slice Ao16 t214.length co16) := (blk_cell BK217.out 2).trans rfl
               have hfz80_0 := blk_frozen BK217.out 0
               have hfz80_1 := blk_frozen BK217.out 1
               have hfz80_2 := blk_frozen BK217.out 2
               have hnb81 := NB211_210.out; have hnc81 := NB210_211.out
               have hcz82_0 : wr.cell? ⟨gb211, 0, none⟩ = some (.int .i64 x212000_2) := (blk_cell BK211.out 0).trans rfl
               have hcz82_1 : wr.cell? ⟨gb211, 1, none⟩ = some (.int .i64 x212001_2) := (blk_cell BK211.out 1).trans rfl
               have hcz82_2 : wr.cell? ⟨gb211, 2, none⟩ = some (.slice none 0 0) := (blk_cell BK211.out 2).trans rfl
               have hfz82_0 := blk_frozen BK211.out 0
               have hfz82_1 := blk_frozen BK211.out 1
               have hfz82_2 := blk_frozen BK211.out 2
               go_wp2
               refine bodyPost_ret (results_ct rfl _ _ gb211 29 #[.int .i64 t212, .int .i64 t213, .slice Ao16 t214.length co16] (0, 0) _ rfl (by (with_reducible repeat (first | refine blk_drewN ?_ _ | refine blk_drew ?_ | refine blk_alloc ?_ _)); refine blk_put (cs := #[.int .i64 t212, .int .i64 t213, .slice none 0 0]) ?_ 2 _ rfl; (with_reducible repeat (first | refine blk_drewN ?_ _ | refine blk_drew ?_ | refine blk_alloc ?_ _)); refine blk_put (cs := #[.int .i64 t212, .int .i64 x212001_2, .slice none 0 0]) ?_ 1 _ rfl; (with_reducible repeat (first | refine blk_drewN ?_ _ | refine blk_drew ?_ | refine blk_alloc ?_ _)); refine blk_put (cs := #[.int .i64 x212000_2, .int .i64 x212001_2, .slice none 0 0]) ?_ 0 _ rfl; (with_reducible repeat (first | refine blk_drewN ?_ _ | refine blk_drew ?_ | refine blk_alloc ?_ _)); exact BK211.out) Try.underlying29 rfl (by kernel_rfl)) rfl ?_
               exact ⟨_, by first | rfl | (simp [errW_none, errW_some] <;> rfl) | (simp [*, errW_none, errW_some] <;> first | rfl | (simp [wrap64]; done)), by (with_reducible repeat (first | apply Kd.R_alloc | apply Kd.R_drewN | apply Kd.R_drew)); exact Kd.R_mono (Kd.R_far (p := ⟨gb211, 2, none⟩) (Kd.R_far (p := ⟨gb211, 1, none⟩) (Kd.R_far (p := ⟨gb211, 0, none⟩) (Kd.R_types HO_218002.out BK211.out (by decide)) (fun _ hk => hk.2) (.int .i64 t212)) (fun _ hk => hk.2) (.int .i64 t213)) (fun _ hk => hk.2) (.slice Ao16 t214.length co16)) (fun _ hk => trivial), nH3 HB.out GE210.out GE211.out GE217.out⟩
             · rw [if_neg c76] at H
               have c76b0 : decide (x13_3 < 0) = false := decide_eq_false c76
               clear c76
               replace H := Option.bind_eq_some_iff.mp H
               obtain ⟨⟨t228, t229, t230⟩, A830, H⟩ := H
               replace H : (some (t228, t229, t230, x13_3)) = some (r1, r2, r3, r4) := H
               have A83 := Aside0.mk A830
               clear A830
               simp only [Option.some.injEq, Prod.mk.injEq] at H
               obtain ⟨rfl, rfl, rfl, rfl⟩ := H
               obtain ⟨Ao84, co84, eo84⟩ := Kd.R_slice HO_12.out
               subst eo84
               have hnb85 := NB210_211.out; have hnc85 := NB211_210.out; have hnb86 := NB210_217.out; have hnc86 := NB217_210.out
               have hcz87_0 : wr.cell? ⟨gb210, 0, none⟩ = some (.int .i64 a0_0) := (blk_cell BK210.out 0).trans rfl
               have hcz87_1 : wr.cell? ⟨gb210, 1, none⟩ = some (.int .i64 a0_1) := (blk_cell BK210.out 1).trans rfl
               have hcz87_2 : wr.cell? ⟨gb210, 2, none⟩ = some (.slice A0_2 l0_2.length c0_2) := (blk_cell BK210.out 2).trans rfl
               have hfz87_0 := blk_frozen BK210.out 0
               have hfz87_1 := blk_frozen BK210.out 1
               have hfz87_2 := blk_frozen BK210.out 2
               go_wp2_with (first | ((with_reducible refine gate_callee (f := 59) rfl ?_); refine goesL_ (some 92) rfl rfl Try.func59 (by kernel_rfl) rfl #[.agg #[.int .i64 a0_0, .int .i64 a0_1, .slice A0_2 l0_2.length c0_2], .int .i64 0, .agg #[.int .i64 a1, .int .i64 x13_3, .int .i64 a2, .int .i64 a3]] rfl (by (try simp only [List.map_toArray, List.map_cons, List.map_nil]); first | done | rfl | (simp only [List.length_drop, List.length_take]; rfl)) ?_; (with_reducible refine (spec_l14Held.calls k3 a0_0 a0_1 _ _ l0_2 0 a1 x13_3 a2 a3 t228 t229 t230 _ ?side1 ?side2 A83.out).mono ?_); (case side1 => repeat (first | exact (Kd.C_below HR0_2.out HB.out) | (with_reducible refine Kd.C_alloc ?_ _) | (with_reducible refine Kd.C_drewN ?_ _) | (with_reducible refine Kd.C_drew ?_))); (case side2 => exact HC0_2.out); rintro e w88 ⟨v231, rfl, ho0, hb⟩; refine ⟨_, rfl, ?_⟩; have n0_ := Aside0.mk (Kd.R_below (nR HO_12.out) hb); have n1_ := Aside0.mk (Kd.R_elder' (nR HO_218002.out) (Kd.R_base ho0) hb); have n2_ := Aside0.mk (Kd.R_lower (Kd.R_new' ho0 (Kd.R_lt (nR HO_218002.out))) (below_size (nH3 HB.out GE210.out GE211.out GE217.out))); have n3_ := Aside0.mk (blk_below (g := gb210) (o := .cells #[.int .i64 a0_0, .int .i64 a0_1, .slice A0_2 l0_2.length c0_2] 29 (0, 0)) (nB BK210.out) hb); have n4_ := Aside0.mk (blk_below (g := gb211) (o := .cells #[.int .i64 x212000_2, .int .i64 x212001_2, .slice none 0 0] 29 (0, 0)) (nB BK211.out) hb); have n5_ := Aside0.mk (blk_below (g := gb217) (o := .cells #[.int .i64 t212, .int .i64 t213, .slice Ao16 t214.length co16] 29 (0, 0)) (nB BK217.out) hb); have n6_ := Aside0.mk (below_step (nH3 HB.out GE210.out GE211.out GE217.out) hb); clear HO_12; clear HO_218002; clear BK210; clear BK211; clear BK217; clear HB; have HO_12 := n0_; have HO_218002 := n1_; have HO232 := n2_; have BK210 := n3_; have BK211 := n4_; have BK217 := n5_; have HB := n6_; clear n0_ n1_ n2_ n3_ n4_ n5_ n6_; (try clear hb); (try clear hb2); (try clear hk); (try clear hi); (try clear ho0); have hnb89 := NB211_217.out; have hnc89 := NB217_211.out; have hcz90_0 : w88.cell? ⟨gb211, 0, none⟩ = some (.int .i64 x212000_2) := (blk_cell BK211.out 0).trans rfl; have hcz90_1 : w88.cell? ⟨gb211, 1, none⟩ = some (.int .i64 x212001_2) := (blk_cell BK211.out 1).trans rfl; have hcz90_2 : w88.cell? ⟨gb211, 2, none⟩ = some (.slice none 0 0) := (blk_cell BK211.out 2).trans rfl; have hfz90_0 := blk_frozen BK211.out 0; have hfz90_1 := blk_frozen BK211.out 1; have hfz90_2 := blk_frozen BK211.out 2; obtain ⟨Ao91, co91, eo91⟩ := Kd.R_slice HO232.out; subst eo91))
               refine bodyPost_ret (results_ct rfl _ _ gb211 29 #[.int .i64 t228, .int .i64 t229, .slice Ao91 t230.length co91] (0, 0) _ rfl (by (with_reducible repeat (first | refine blk_drewN ?_ _ | refine blk_drew ?_ | refine blk_alloc ?_ _)); refine blk_put (cs := #[.int .i64 t228, .int .i64 t229, .slice none 0 0]) ?_ 2 _ rfl; (with_reducible repeat (first | refine blk_drewN ?_ _ | refine blk_drew ?_ | refine blk_alloc ?_ _)); refine blk_put (cs := #[.int .i64 t228, .int .i64 x212001_2, .slice none 0 0]) ?_ 1 _ rfl; (with_reducible repeat (first | refine blk_drewN ?_ _ | refine blk_drew ?_ | refine blk_alloc ?_ _)); refine blk_put (cs := #[.int .i64 x212000_2, .int .i64 x212001_2, .slice none 0 0]) ?_ 0 _ rfl; (with_reducible repeat (first | refine blk_drewN ?_ _ | refine blk_drew ?_ | refine blk_alloc ?_ _)); exact BK211.out) Try.underlying29 rfl (by kernel_rfl)) rfl ?_
               exact ⟨_, by first | rfl | (simp [errW_none, errW_some] <;> rfl) | (simp [*, errW_none, errW_some] <;> first | rfl | (simp [wrap64]; done)), by (with_reducible repeat (first | apply Kd.R_alloc | apply Kd.R_drewN | apply Kd.R_drew)); exact Kd.R_mono (Kd.R_far (p := ⟨gb211, 2, none⟩) (Kd.R_far (p := ⟨gb211, 1, none⟩) (Kd.R_far (p := ⟨gb211, 0, none⟩) (Kd.R_types HO232.out BK211.out (by decide)) (fun _ hk => hk.2) (.int .i64 t228)) (fun _ hk => hk.2) (.int .i64 t229)) (fun _ hk => hk.2) (.slice Ao91 t230.length co91)) (fun _ hk => trivial), nH3 HB.out GE210.out GE211.out GE217.out⟩
end Go.Proofs.Ytklikbjlfaednaa.P

/- Contracts of the functions of the program, each one with its plain Lean function; written by a program of the session out of the translation. -/
import Derived.Test.YtklikbjlfaednaaNe
import Derived.Test.YtklikbjlfaednaaNb
import Derived.Test.YtklikbjlfaednaaPx0
import Derived.Test.YtklikbjlfaednaaPx15
import Derived.Test.YtklikbjlfaednaaPx16
import Derived.Test.YtklikbjlfaednaaPx18
import Derived.Test.YtklikbjlfaednaaPx20
import Derived.Test.YtklikbjlfaednaaPx22
namespace Go.Proofs.Ytklikbjlfaednaa.P
open Go.RowKit Go.Proofs.YtklikbjlfaednaaW.PrintWords Go.Proofs.YtklikbjlfaednaaW.PrintLast Go.Proofs.YtklikbjlfaednaaW.PrintMore
attribute [local go_sem] max2_int min2_int max_two min_two max_three min_three max_four min_four   -- for this text's walks alone
set_option linter.unusedVariables false
set_option linter.unusedSimpArgs false
/-! ### spec_Book: function 35 -/
theorem spec_Book.mono_l : ∀ k, (∀ y0 y1 y2 y3 y4 y5 y6 y7 y8 y9, LeO (spec_Book.j0 k y0 y1 y2 y3 y4 y5 y6 y7 y8 y9) (spec_Book.j0 (k + 1) y0 y1 y2 y3 y4 y5 y6 y7 y8 y9)) ∧ (∀ y0 y1 y2 y3 y4 y5 y6 y7 y8 y9, LeO (spec_Book.l0 k y0 y1 y2 y3 y4 y5 y6 y7 y8 y9) (spec_Book.l0 (k + 1) y0 y1 y2 y3 y4 y5 y6 y7 y8 y9)) ∧ (∀ y0 y1 y2 y3 y4 y5 y6 y7 y8 y9 y10 y11, LeO (spec_Book.l1 k y0 y1 y2 y3 y4 y5 y6 y7 y8 y9 y10 y11) (spec_Book.l1 (k + 1) y0 y1 y2 y3 y4 y5 y6 y7 y8 y9 y10 y11))
 | 0 => ⟨fun _ _ _ _ _ _ _ _ _ _ r h => by simp [spec_Book.j0] at h, fun _ _ _ _ _ _ _ _ _ _ r h => by simp [spec_Book.l0] at h, fun _ _ _ _ _ _ _ _ _ _ _ _ r h => by simp [spec_Book.l1] at h⟩
 | k + 1 => by
  obtain ⟨ih0, ih1, ih2⟩ := spec_Book.mono_l k
  refine ⟨?_, ?_, ?_⟩
  · intro y0 y1 y2 y3 y4 y5 y6 y7 y8 y9
    unfold spec_Book.j0
    repeat' first
    | (with_reducible exact ih0 _ _ _ _ _ _ _ _ _ _)
    | (with_reducible exact ih1 _ _ _ _ _ _ _ _ _ _)
    | (with_reducible exact ih2 _ _ _ _ _ _ _ _ _ _ _ _)
    | (with_reducible exact spec_FreeSeats.mono _ _ _ _ _ _)
    | (with_reducible exact spec_Hole.mono _ _ _ _ _ _ _)
    | (with_reducible exact spec_l14Asked.mono _ _ _ _ _ _)
    | (with_reducible exact spec_l14Held.mono _ _ _ _ _ _ _ _ _)
    | (with_reducible exact spec_l14Same.mono _ _ _ _)
    | (with_reducible exact LeO.refl _)
    | (with_reducible exact LeO.none _)
    | (with_reducible refine LeO.ite ?_ ?_)
    | (with_reducible refine LeO.bind ?_ (fun _ => ?_))
    | exact ih0 _ _ _ _ _ _ _ _ _ _
    | exact ih1 _ _ _ _ _ _ _ _ _ _
    | exact ih2 _ _ _ _ _ _ _ _ _ _ _ _
    | exact spec_FreeSeats.mono _ _ _ _ _ _
    | exact spec_Hole.mono _ _ _ _ _ _ _
    | exact spec_l14Asked.mono _ _ _ _ _ _
    | exact spec_l14Held.mono _ _ _ _ _ _ _ _ _
    | exact spec_l14Same.mono _ _ _ _
    | exact LeO.none _
    | refine LeO.ite ?_ ?_
    | refine LeO.bind ?_ (fun _ => ?_)
  · intro y0 y1 y2 y3 y4 y5 y6 y7 y8 y9
    unfold spec_Book.l0
    repeat' first
    | (with_reducible exact ih0 _ _ _ _ _ _ _ _ _ _)
    | (with_reducible exact ih1 _ _ _ _ _ _ _ _ _ _)
    | (with_reducible exact ih2 _ _ _ _ _ _ _ _ _ _ _ _)
    | (with_reducible exact spec_FreeSeats.mono _ _ _ _ _ _)
    | (with_reducible exact spec_Hole.mono _ _ _ _ _ _ _)
    | (with_reducible exact spec_l14Asked.mono _ _ _ _ _ _)
    | (with_reducible exact spec_l14Held.mono _ _ _ _ _ _ _ _ _)
    | (with_reducible exact spec_l14Same.mono _ _ _ _)
    | (with_reducible exact LeO.refl _)
    | (with_reducible exact LeO.none _)
    | (with_reducible refine LeO.ite ?_ ?_)
    | (with_reducible refine LeO.bind ?_ (fun _ => ?_))
    | exact ih0 _ _ _ _ _ _ _ _ _ _
    | exact ih1 _ _ _ _ _ _ _ _ _ _
    | exact ih2 _ _ _ _ _ _ _ _ _ _ _ _
    | exact spec_FreeSeats.mono _ _ _ _ _ _
    | exact spec_Hole.mono _ _ _ _ _ _ _
    | exact spec_l14Asked.mono _ _ _ _ _ _
    | exact spec_l14Held.mono _ _ _ _ _ _ _ _ _
    | exact spec_l14Same.mono _ _ _ _
    | exact LeO.none _
    | refine LeO.ite ?_ ?_
    | refine LeO.bind ?_ (fun _ => ?_)
  · intro y0 y1 y2 y3 y4 y5 y6 y7 y8 y9 y10 y11
    unfold spec_Book.l1
    repeat' first
    | (with_reducible exact ih0 _ _ _ _ _ _ _ _ _ _)
    | (with_reducible exact ih1 _ _ _ _ _ _ _ _ _ _)
    | (with_reducible exact ih2 _ _ _ _ _ _ _ _ _ _ _ _)
    | (with_reducible exact spec_FreeSeats.mono _ _ _ _ _ _)
    | (with_reducible exact spec_Hole.mono _ _ _ _ _ _ _)
    | (with_reducible exact spec_l14Asked.mono _ _ _ _ _ _)
    | (with_reducible exact spec_l14Held.mono _ _ _ _ _ _ _ _ _)
    | (with_reducible exact spec_l14Same.mono _ _ _ _)
    | (with_reducible exact LeO.refl _)
    | (with_reducible exact LeO.none _)
    | (with_reducible refine LeO.ite ?_ ?_)
    | (with_reducible refine LeO.bind ?_ (fun _ => ?_))
    | exact ih0 _ _ _ _ _ _ _ _ _ _
    | exact ih1 _ _ _ _ _ _ _ _ _ _
    | exact ih2 _ _ _ _ _ _ _ _ _ _ _ _
    | exact spec_FreeSeats.mono _ _ _ _ _ _
    | exact spec_Hole.mono _ _ _ _ _ _ _
    | exact spec_l14Asked.mono _ _ _ _ _ _
    | exact spec_l14Held.mono _ _ _ _ _ _ _ _ _
    | exact spec_l14Same.mono _ _ _ _
    | exact LeO.none _
    | refine LeO.ite ?_ ?_
    | refine LeO.bind ?_ (fun _ => ?_)
theorem spec_Book.mono : ∀ a0 a1 a2 a3 a4 a5 k, LeO (spec_Book.f k a0 a1 a2 a3 a4 a5) (spec_Book.f (k + 1) a0 a1 a2 a3 a4 a5) := by
 intro a0 a1 a2 a3 a4 a5 k
 obtain ⟨ih0, ih1, ih2⟩ := spec_Book.mono_l k
 unfold spec_Book.f
 repeat' first
  | (with_reducible exact ih0 _ _ _ _ _ _ _ _ _ _)
  | (with_reducible exact ih1 _ _ _ _ _ _ _ _ _ _)
  | (with_reducible exact ih2 _ _ _ _ _ _ _ _ _ _ _ _)
  | (with_reducible exact spec_FreeSeats.mono _ _ _ _ _ _)
  | (with_reducible exact spec_Hole.mono _ _ _ _ _ _ _)
  | (with_reducible exact spec_l14Asked.mono _ _ _ _ _ _)
  | (with_reducible exact spec_l14Held.mono _ _ _ _ _ _ _ _ _)
  | (with_reducible exact spec_l14Same.mono _ _ _ _)
  | (with_reducible exact LeO.refl _)
  | (with_reducible exact LeO.none _)
  | (with_reducible refine LeO.ite ?_ ?_)
  | (with_reducible refine LeO.bind ?_ (fun _ => ?_))
  | exact ih0 _ _ _ _ _ _ _ _ _ _
  | exact ih1 _ _ _ _ _ _ _ _ _ _
  | exact ih2 _ _ _ _ _ _ _ _ _ _ _ _
  | exact spec_FreeSeats.mono _ _ _ _ _ _
  | exact spec_Hole.mono _ _ _ _ _ _ _
  | exact spec_l14Asked.mono _ _ _ _ _ _
  | exact spec_l14Held.mono _ _ _ _ _ _ _ _ _
  | exact spec_l14Same.mono _ _ _ _
  | exact LeO.none _
  | refine LeO.ite ?_ ?_
  | refine LeO.bind ?_ (fun _ => ?_)
def spec_Book.T14 : Bool × List (List Nat × List Nat) := (true, [([], []), ([0], [0]), ([1], [1]), ([2], [2]), ([2], [2]), ([2], [2]), ([4, 5, 2], [2, 4, 5]), ([6, 2], [2, 6]), ([2], [2]), ([2], [2]), ([3, 7, 8, 9, 2, 2], [2, 3, 7, 8, 9]), ([2], [2]), ([2], [2]), ([2], [2]), ([2], [2]), ([11, 12, 13, 14, 10, 2], [2, 11, 12, 13, 14]), ([10, 15, 2], [2, 10, 15]), ([2, 16], [2, 16])])
def spec_Book.B14 : List Nat := [0, 1, 3, 7, 7, 7, 55, 119, 7, 7, 1023, 7, 7, 7, 7, 32767, 65535, 131071]
theorem spec_Book.tab14 : rtab .any (opsOf Try.f35 14) = spec_Book.T14 := by kernel_rfl
theorem spec_Book.bits14 : waitsOk spec_Book.T14.2 spec_Book.B14 = true := by kernel_rfl
set_option maxHeartbeats 8000000 in
set_option maxRecDepth 100000 in
theorem spec_Book.calls (k : Nat) (a0_0 : Int) (a0_1 : Int) (A0_2 : Option Addr) (c0_2 : Nat) (l0_2 : List (S66)) (a1 : Int) (a2 : Int) (a3 : Int) (r1 : Int) (r2 : Int) (r3 : List (S66)) (r4 : Int) (w : World) (hr0_2 : Kd.C k66 w A0_2 l0_2.length l0_2) (hc0_2 : l0_2.length ≤ c0_2) (h : spec_Book.f k a0_0 a0_1 l0_2 a1 a2 a3 = some (r1, r2, r3, r4)) :
 Calls Try.prog 35 #[.agg #[.int .i64 a0_0, .int .i64 a0_1, .slice A0_2 l0_2.length c0_2], .int .i64 a1, .int .i64 a2, .int .i64 a3] w fun e w' => ∃ v2_ : Value, e = .returned (.tuple #[.agg #[.int .i64 r1, .int .i64 r2, v2_], .int .i64 r4]) ∧ Kd.R k66 66 w' w.heap.size (fun _ => True) v2_ r3 ∧ Below w.heap.size w w' := by
 have hu29 := Try.underlying29; have hu66 := Try.underlying66
 have HR0_2 := aM hr0_2
 have HC0_2 := aM hc0_2
 clear hr0_2 hc0_2
 have HB := aM (Below.refl w.heap.size w)
 have H : ((spec_l14Held.f k a0_0 a0_1 l0_2 0 0 0 0 0).bind fun bt217 => ((spec_l14Asked.f k a0_0 a0_1 l0_2 a2 a3).bind fun t223 => (if t223 = true then (if a1 ≤ 0 then (spec_Book.j0 k a1 a2 a3 true a0_0 a0_1 l0_2 bt217.1 bt217.2.1 bt217.2.2) else (spec_Book.j0 k a1 a2 a3 (decide ((l0_2.length : Int) ≥ 200)) a0_0 a0_1 l0_2 bt217.1 bt217.2.1 bt217.2.2)) else (spec_Book.j0 k a1 a2 a3 true a0_0 a0_1 l0_2 bt217.1 bt217.2.1 bt217.2.2)))) = some (r1, r2, r3, r4) := h
 clear h
 replace H := Option.bind_eq_some_iff.mp H
 obtain ⟨⟨t217, t218, t219⟩, A50, H⟩ := H
 replace H : ((spec_l14Asked.f k a0_0 a0_1 l0_2 a2 a3).bind fun t223 => (if t223 = true then (if a1 ≤ 0 then (spec_Book.j0 k a1 a2 a3 true a0_0 a0_1 l0_2 t217 t218 t219) else (spec_Book.j0 k a1 a2 a3 (decide ((l0_2.length : Int) ≥ 200)) a0_0 a0_1 l0_2 t217 t218 t219)) else (spec_Book.j0 k a1 a2 a3 true a0_0 a0_1 l0_2 t217 t218 t219))) = some (r1, r2, r3, r4) := H
 have A5 := aM A50
 clear A50
 have HC6 := aM H
 clear H
 go_enter Try.func35, Try.ntmps35
 go_upto_region 2 with (first | ((with_reducible refine gate_dst (N := 4) rfl ?_); (try (refine gate_guard (by rfl) ?_; dsimp only)); refine box_event ?hg (N := 4) ?hd (cs := #[.int .i64 a0_0, .int .i64 a0_1, .slice A0_2 l0_2.length c0_2]) (t := 29) ?hr ?_; (case hd => rfl); (case hg => rfl); (case hr => first | (go_simp; done) | (go_simp; rfl)); intro gb215 hg w7 hbox hb; have n_ := aA (below_step (nH HB.out) hb) <| aA (hbox) <| aA (bS hg (nH HB.out)) <| aM (bS hg (nH HB.out)); clear HB; obtain ⟨HB, BK215, GW215, GE215⟩ := n_; clear hb hbox hg) | ((with_reducible refine gate_dst (N := 8) rfl ?_); (try (refine gate_guard (by rfl) ?_; dsimp only)); refine box_event ?hg (N := 8) ?hd (cs := #[.int .i64 0, .int .i64 0, .slice none 0 0]) (t := 29) ?hr ?_; (case hd => rfl); (case hg => rfl); (case hr => first | (go_simp; done) | (go_simp; rfl)); intro gb216 hg w8 hbox hb; have n_ := aA (nBB BK215.out hb) <| aA (below_step (nH1 HB.out GE215.out) hb) <| aA (hbox) <| aA (bS hg (nH1 HB.out GE215.out)) <| aA (bS hg (nH1 HB.out GE215.out)) <| aA (nBL BK215.out hg) <| aM (by rw [hg]; exact Nat.ne_of_gt (blk_lt (g := gb215) (o := .cells #[.int .i64 a0_0, .int .i64 a0_1, .slice A0_2 l0_2.length c0_2] 29 (0, 0)) (nB BK215.out)) : gb216 ≠ gb215); clear BK215 HB; obtain ⟨BK215, HB, BK216, GW216, GE216, NB215_216, NB216_215⟩ := n_; clear hb hbox hg; have hnb9 := NB215_216.out; have hnc9 := NB216_215.out; obtain ⟨hcz10_0, hcz10_1, hcz10_2, hfz10_0, hfz10_1, hfz10_2⟩ := nK3 BK215.out) | ((with_reducible refine gate_callee (f := 59) rfl ?_); refine goesL_ (some 17) rfl rfl Try.func59 (by kernel_rfl) rfl #[.agg #[.int .i64 a0_0, .int .i64 a0_1, .slice A0_2 l0_2.length c0_2], .int .i64 0, .agg #[.int .i64 0, .int .i64 0, .int .i64 0, .int .i64 0]] rfl (by (try simp only [List.map_toArray, List.map_cons, List.map_nil]); first | done | rfl | (simp only [List.length_drop, List.length_take]; rfl)) ?_; (with_reducible refine (spec_l14Held.calls k a0_0 a0_1 _ _ l0_2 0 0 0 0 0 t217 t218 t219 _ ?side1 ?side2 A5.out).mono ?_); (case side1 => repeat (first | exact (Kd.C_below HR0_2.out HB.out) | (with_reducible refine Kd.C_alloc ?_ _) | (with_reducible refine Kd.C_drewN ?_ _) | (with_reducible refine Kd.C_drew ?_))); (case side2 => exact HC0_2.out); rintro e w11 ⟨v220, rfl, ho0, hb⟩; refine ⟨_, rfl, ?_⟩; have n_ := aA (Kd.R_lower ho0 (below_size (nH2 HB.out GE215.out GE216.out))) <| aA (nBB BK215.out hb) <| aA (nBB BK216.out hb) <| aM (below_step (nH2 HB.out GE215.out GE216.out) hb); clear BK215 BK216 HB; obtain ⟨HO221, BK215, BK216, HB⟩ := n_; (try clear hb); (try clear hb2); (try clear hk); (try clear hi); (try clear ho0)) | ((with_reducible refine gate_dst (N := 10) rfl ?_); (try (refine gate_guard (by rfl) ?_; dsimp only)); refine box_event ?hg (N := 10) ?hd (cs := #[.int .i64 0, .int .i64 0, .slice none 0 0]) (t := 29) ?hr ?_; (case hd => rfl); (case hg => rfl); (case hr => first | (go_simp; done) | (go_simp; rfl)); intro gb222 hg w12 hbox hb; have n_ := aA (Kd.R_below (nR HO221.out) hb) <| aA (nBB BK215.out hb) <| aA (nBB BK216.out hb) <| aA (below_step (nH2 HB.out GE215.out GE216.out) hb) <| aA (hbox) <| aA (bS hg (nH2 HB.out GE215.out GE216.out)) <| aA (bS hg (nH2 HB.out GE215.out GE216.out)) <| aA (nBL BK215.out hg) <| aA (by rw [hg]; exact Nat.ne_of_gt (blk_lt (g := gb215) (o := .cells #[.int .i64 a0_0, .int .i64 a0_1, .slice A0_2 l0_2.length c0_2] 29 (0, 0)) (nB BK215.out)) : gb222 ≠ gb215) <| aA (nBL BK216.out hg) <| aM (by rw [hg]; exact Nat.ne_of_gt (blk_lt (g := gb216) (o := .cells #[.int .i64 0, .int .i64 0, .slice none 0 0] 29 (0, 0)) (nB BK216.out)) : gb222 ≠ gb216); clear HO221 BK215 BK216 HB; obtain ⟨HO221, BK215, BK216, HB, BK222, GW222, GE222, NB215_222, NB222_215, NB216_222, NB222_216⟩ := n_; clear hb hbox hg; have hnb13 := NB222_215.out; have hnc13 := NB215_222.out; have hnb14 := NB222_216.out; have hnc14 := NB216_222.out; obtain ⟨hcz15_0, hcz15_1, hcz15_2, hfz15_0, hfz15_1, hfz15_2⟩ := nK3 BK222.out; obtain ⟨Ao16, co16, eo16⟩ := Kd.R_slice HO221.out; subst eo16))
 (try simp only [Act.put, List.setIfInBounds_toArray, List.set_cons_zero, List.set_cons_succ])
 go_cut [32] (fun v32 wc => ∃ (kq : Nat) (x32_5 : Bool), v32 = .bool x32_5 ∧ Aside0 (spec_Book.j0 kq a1 a2 a3 x32_5 a0_0 a0_1 l0_2 t217 t218 t219 = some (r1, r2, r3, r4)) ∧ Aside0 (kq ≤ k) ∧ Aside0 (Kd.R k66 66 wc w.heap.size (fun _ => True) (.slice Ao16 t219.length co16) t219) ∧ Aside0 (wc.heap[gb215]? = some (.cells #[.int .i64 a0_0, .int .i64 a0_1, (.slice A0_2 l0_2.length c0_2)] 29 (0, 0))) ∧ Aside0 (wc.heap[gb216]? = some (.cells #[.int .i64 0, .int .i64 0, (.slice none 0 0)] 29 (0, 0))) ∧ Aside0 (wc.heap[gb222]? = some (.cells #[.int .i64 t217, .int .i64 t218, (.slice Ao16 t219.length co16)] 29 (0, 0))) ∧ Aside0 (Below w.heap.size w wc))
 case first =>
  have H := HC6.out; clear HC6
  obtain ⟨t223, A170, H⟩ := Option.bind_eq_some_iff.mp H
  have A17 := aM A170
  clear A170
  by_cases c18 : t223 = true
  · subst c18
    rw [if_pos rfl] at H
    by_cases c19 : a1 ≤ 0
    · rw [if_pos c19] at H
      have c19b0 : decide (a1 ≤ 0) = true := decide_eq_true c19
      clear c19
      (first | rw [c19b0] | (simp only [i64_w, i32_w]; rw [c19b0]) | skip)
      have H' := aM H
      clear H; have hnb20 := NB215_216.out; have hnc20 := NB216_215.out; have hnb21 := NB215_222.out; have hnc21 := NB222_215.out
      obtain ⟨hcz22_0, hcz22_1, hcz22_2, hfz22_0, hfz22_1, hfz22_2⟩ := nK3 BK215.out
      go_wp2_with (first | ((with_reducible refine gate_callee (f := 50) rfl ?_); refine goesL_ (some 21) rfl rfl Try.func50 (by kernel_rfl) rfl #[.agg #[.int .i64 a0_0, .int .i64 a0_1, .slice A0_2 l0_2.length c0_2], .int .i64 a2, .int .i64 a3] rfl (by (try simp only [List.map_toArray, List.map_cons, List.map_nil]); first | done | rfl | (simp only [List.length_drop, List.length_take]; rfl)) ?_; (with_reducible refine (spec_l14Asked.calls k a0_0 a0_1 _ _ l0_2 a2 a3 true _ ?side1 ?side2 A17.out).mono ?_); (case side1 => exact Kd.C_below HR0_2.out (nH3 HB.out GE215.out GE216.out GE222.out)); (case side2 => exact HC0_2.out); rintro e w23 ⟨rfl, hb⟩; refine ⟨_, rfl, ?_⟩; have n_ := aA (Kd.R_below (by (with_reducible repeat (first | apply Kd.R_alloc | apply Kd.R_drewN | apply Kd.R_drew)); exact (Kd.R_mono (Kd.R_far (p := ⟨gb222, 2, none⟩) (Kd.R_far (p := ⟨gb222, 1, none⟩) (Kd.R_far (p := ⟨gb222, 0, none⟩) (Kd.R_types HO221.out BK222.out (by decide)) (fun _ hk => hk.2) (.int .i64 t217)) (fun _ hk => hk.2) (.int .i64 t218)) (fun _ hk => hk.2) (.slice Ao16 t219.length co16)) (fun _ h_ => h_.1))) hb) <| aA (blk_below (g := gb215) (o := .cells #[.int .i64 a0_0, .int .i64 a0_1, .slice A0_2 l0_2.length c0_2] 29 (0, 0)) (by refine nE ?_; refine blk_far ?_ NB215_222.out _; refine nE ?_; refine blk_far ?_ NB215_222.out _; refine nE ?_; refine blk_far ?_ NB215_222.out _; refine nE ?_; exact BK215.out) hb) <| aA (blk_below (g := gb216) (o := .cells #[.int .i64 0, .int .i64 0, .slice none 0 0] 29 (0, 0)) (by refine nE ?_; refine blk_far ?_ NB216_222.out _; refine nE ?_; refine blk_far ?_ NB216_222.out _; refine nE ?_; refine blk_far ?_ NB216_222.out _; refine nE ?_; exact BK216.out) hb) <| aA (blk_below (g := gb222) (o := .cells #[.int .i64 t217, .int .i64 t218, .slice Ao16 t219.length co16] 29 (0, 0)) (by refine nE ?_; refine blk_put (cs := #[.int .i64 t217, .int .i64 t218, .slice none 0 0]) ?_ 2 _ rfl; refine nE ?_; refine blk_put (cs := #[.int .i64 t217, .int .i64 0, .slice none 0 0]) ?_ 1 _ rfl; refine nE ?_; refine blk_put (cs := #[.int .i64 0, .int .i64 0, .slice none 0 0]) ?_ 0 _ rfl; refine nE ?_; exact BK222.out) hb) <| aM (below_step (nH3 HB.out GE215.out GE216.out GE222.out) hb); clear HO221 BK215 BK216 BK222 HB; obtain ⟨HO221, BK215, BK216, BK222, HB⟩ := n_; (try clear hb); (try clear hb2); (try clear hk); (try clear hi)))
      go_meet
      case rel => exact ⟨_, (true), nS, H', ⟨by first | omega | exact Nat.le_refl _⟩, ⟨by (with_reducible repeat (first | apply Kd.R_alloc | apply Kd.R_drewN | apply Kd.R_drew)); exact HO221.out⟩, ⟨by refine nE ?_; exact BK215.out⟩, ⟨by refine nE ?_; exact BK216.out⟩, ⟨by refine nE ?_; exact BK222.out⟩, ⟨nH3 HB.out GE215.out GE216.out GE222.out⟩⟩
    · rw [if_neg c19] at H
      have c19b0 : decide (a1 ≤ 0) = false := decide_eq_false c19
      clear c19
      (first | rw [c19b0] | (simp only [i64_w, i32_w]; rw [c19b0]) | skip)
      have H' := aM H
      clear H; have hnb24 := NB215_216.out; have hnc24 := NB216_215.out; have hnb25 := NB215_222.out; have hnc25 := NB222_215.out
      obtain ⟨hcz26_0, hcz26_1, hcz26_2, hfz26_0, hfz26_1, hfz26_2⟩ := nK3 BK215.out
      go_wp2_with (first | ((with_reducible refine gate_callee (f := 50) rfl ?_); refine goesL_ (some 21) rfl rfl Try.func50 (by kernel_rfl) rfl #[.agg #[.int .i64 a0_0, .int .i64 a0_1, .slice A0_2 l0_2.length c0_2], .int .i64 a2, .int .i64 a3] rfl (by (try simp only [List.map_toArray, List.map_cons, List.map_nil]); first | done | rfl | (simp only [List.length_drop, List.length_take]; rfl)) ?_; (with_reducible refine (spec_l14Asked.calls k a0_0 a0_1 _ _ l0_2 a2 a3 true _ ?side1 ?side2 A17.out).mono ?_); (case side1 => exact Kd.C_below HR0_2.out (nH3 HB.out GE215.out GE216.out GE222.out)); (case side2 => exact HC0_2.out); rintro e w27 ⟨rfl, hb⟩; refine ⟨_, rfl, ?_⟩; have n_ := aA (Kd.R_below (by (with_reducible repeat (first | apply Kd.R_alloc | apply Kd.R_drewN | apply Kd.R_drew)); exact (Kd.R_mono (Kd.R_far (p := ⟨gb222, 2, none⟩) (Kd.R_far (p := ⟨gb222, 1, none⟩) (Kd.R_far (p := ⟨gb222, 0, none⟩) (Kd.R_types HO221.out BK222.out (by decide)) (fun _ hk => hk.2) (.int .i64 t217)) (fun _ hk => hk.2) (.int .i64 t218)) (fun _ hk => hk.2) (.slice Ao16 t219.length co16)) (fun _ h_ => h_.1))) hb) <| aA (blk_below (g := gb215) (o := .cells #[.int .i64 a0_0, .int .i64 a0_1, .slice A0_2 l0_2.length c0_2] 29 (0, 0)) (by refine nE ?_; refine blk_far ?_ NB215_222.out _; refine nE ?_; refine blk_far ?_ NB215_222.out _; refine nE ?_; refine blk_far ?_ NB215_222.out _; refine nE ?_; exact BK215.out) hb) <| aA (blk_below (g := gb216) (o := .cells #[.int .i64 0, .int .i64 0, .slice none 0 0] 29 (0, 0)) (by refine nE ?_; refine blk_far ?_ NB216_222.out _; refine nE ?_; refine blk_far ?_ NB216_222.out _; refine nE ?_; refine blk_far ?_ NB216_222.out _; refine nE ?_; exact BK216.out) hb) <| aA (blk_below (g := gb222) (o := .cells #[.int .i64 t217, .int .i64 t218, .slice Ao16 t219.length co16] 29 (0, 0)) (by refine nE ?_; refine blk_put (cs := #[.int .i64 t217, .int .i64 t218, .slice none 0 0]) ?_ 2 _ rfl; refine nE ?_; refine blk_put (cs := #[.int .i64 t217, .int .i64 0, .slice none 0 0]) ?_ 1 _ rfl; refine nE ?_; refine blk_put (cs := #[.int .i64 0, .int .i64 0, .slice none 0 0]) ?_ 0 _ rfl; refine nE ?_; exact BK222.out) hb) <| aM (below_step (nH3 HB.out GE215.out GE216.out GE222.out) hb); clear HO221 BK215 BK216 BK222 HB; obtain ⟨HO221, BK215, BK216, BK222, HB⟩ := n_; (try clear hb); (try clear hb2); (try clear hk); (try clear hi); obtain ⟨hcz28_0, hcz28_1, hcz28_2, hfz28_0, hfz28_1, hfz28_2⟩ := nK3 BK215.out))
      go_meet
      case rel => exact ⟨_, (decide ((l0_2.length : Int) ≥ 200)), nS, H', ⟨by first | omega | exact Nat.le_refl _⟩, ⟨by (with_reducible repeat (first | apply Kd.R_alloc | apply Kd.R_drewN | apply Kd.R_drew)); exact HO221.out⟩, ⟨by refine nE ?_; exact BK215.out⟩, ⟨by refine nE ?_; exact BK216.out⟩, ⟨by refine nE ?_; exact BK222.out⟩, ⟨nH3 HB.out GE215.out GE216.out GE222.out⟩⟩
  · replace c18 := Bool.eq_false_iff.mpr c18
    subst c18
    rw [if_neg nN] at H
    have H' := aM H
    clear H; have hnb29 := NB215_216.out; have hnc29 := NB216_215.out; have hnb30 := NB215_222.out; have hnc30 := NB222_215.out
    obtain ⟨hcz31_0, hcz31_1, hcz31_2, hfz31_0, hfz31_1, hfz31_2⟩ := nK3 BK215.out
    go_wp2_with (first | ((with_reducible refine gate_callee (f := 50) rfl ?_); refine goesL_ (some 21) rfl rfl Try.func50 (by kernel_rfl) rfl #[.agg #[.int .i64 a0_0, .int .i64 a0_1, .slice A0_2 l0_2.length c0_2], .int .i64 a2, .int .i64 a3] rfl (by (try simp only [List.map_toArray, List.map_cons, List.map_nil]); first | done | rfl | (simp only [List.length_drop, List.length_take]; rfl)) ?_; (with_reducible refine (spec_l14Asked.calls k a0_0 a0_1 _ _ l0_2 a2 a3 false _ ?side1 ?side2 A17.out).mono ?_); (case side1 => exact Kd.C_below HR0_2.out (nH3 HB.out GE215.out GE216.out GE222.out)); (case side2 => exact HC0_2.out); rintro e w32 ⟨rfl, hb⟩; refine ⟨_, rfl, ?_⟩; have n_ := aA (Kd.R_below (by (with_reducible repeat (first | apply Kd.R_alloc | apply Kd.R_drewN | apply Kd.R_drew)); exact (Kd.R_mono (Kd.R_far (p := ⟨gb222, 2, none⟩) (Kd.R_far (p := ⟨gb222, 1, none⟩) (Kd.R_far (p := ⟨gb222, 0, none⟩) (Kd.R_types HO221.out BK222.out (by decide)) (fun _ hk => hk.2) (.int .i64 t217)) (fun _ hk => hk.2) (.int .i64 t218)) (fun _ hk => hk.2) (.slice Ao16 t219.length co16)) (fun _ h_ => h_.1))) hb) <| aA (blk_below (g := gb215) (o := .cells #[.int .i64 a0_0, .int .i64 a0_1, .slice A0_2 l0_2.length c0_2] 29 (0, 0)) (by refine nE ?_; refine blk_far ?_ NB215_222.out _; refine nE ?_; refine blk_far ?_ NB215_222.out _; refine nE ?_; refine blk_far ?_ NB215_222.out _; refine nE ?_; exact BK215.out) hb) <| aA (blk_below (g := gb216) (o := .cells #[.int .i64 0, .int .i64 0, .slice none 0 0] 29 (0, 0)) (by refine nE ?_; refine blk_far ?_ NB216_222.out _; refine nE ?_; refine blk_far ?_ NB216_222.out _; refine nE ?_; refine blk_far ?_ NB216_222.out _; refine nE ?_; exact BK216.out) hb) <| aA (blk_below (g := gb222) (o := .cells #[.int .i64 t217, .int .i64 t218, .slice Ao16 t219.length co16] 29 (0, 0)) (by refine nE ?_; refine blk_put (cs := #[.int .i64 t217, .int .i64 t218, .slice none 0 0]) ?_ 2 _ rfl; refine nE ?_; refine blk_put (cs := #[.int .i64 t217, .int .i64 0, .slice none 0 0]) ?_ 1 _ rfl; refine nE ?_; refine blk_put (cs := #[.int .i64 0, .int .i64 0, .slice none 0 0]) ?_ 0 _ rfl; refine nE ?_; exact BK222.out) hb) <| aM (below_step (nH3 HB.out GE215.out GE216.out GE222.out) hb); clear HO221 BK215 BK216 BK222 HB; obtain ⟨HO221, BK215, BK216, BK222, HB⟩ := n_; (try clear hb); (try clear hb2); (try clear hk); (try clear hi)))
    go_meet
    case rel => exact ⟨_, (true), nS, H', ⟨by first | omega | exact Nat.le_refl _⟩, ⟨by (with_reducible repeat (first | apply Kd.R_alloc | apply Kd.R_drewN | apply Kd.R_drew)); exact HO221.out⟩, ⟨by refine nE ?_; exact BK215.out⟩, ⟨by refine nE ?_; exact BK216.out⟩, ⟨by refine nE ?_; exact BK222.out⟩, ⟨nH3 HB.out GE215.out GE216.out GE222.out⟩⟩
 case rest =>
  clear HC6; try clear c1; try clear c2; try clear p2; try clear c3; try clear c5; try clear c9; try clear c13; try clear c14; try clear c18; try clear c19; try clear c19b0; try clear c20; try clear c21; try clear c24; try clear c25; try clear c29; try clear c30; try clear hcz10_0; try clear hcz10_1; try clear hcz10_2; try clear hcz15_0; try clear hcz15_1; try clear hcz15_2; try clear hcz22_0; try clear hcz22_1; try clear hcz22_2; try clear hcz26_0; try clear hcz26_1; try clear hcz26_2; try clear hcz28_0; try clear hcz28_1; try clear hcz28_2; try clear hcz31_0; try clear hcz31_1; try clear hcz31_2
  try clear hfz10_0; try clear hfz10_1; try clear hfz10_2; try clear hfz15_0; try clear hfz15_1; try clear hfz15_2; try clear hfz22_0; try clear hfz22_1; try clear hfz22_2; try clear hfz26_0; try clear hfz26_1; try clear hfz26_2; try clear hfz28_0; try clear hfz28_1; try clear hfz28_2; try clear hfz31_0; try clear hfz31_1; try clear hfz31_2
  obtain ⟨kq, x32_5, rfl, HA, HJ5, HO_223002, BK215, BK216, BK222, HB⟩ := hcut
  cases kq with
  | zero => exact absurd HA.out (by simp [spec_Book.j0])
  | succ kj5 =>
   have H := HA.out; clear HA
   simp only [spec_Book.j0] at H
   by_cases c33 : x32_5 = true
   · subst c33
     rw [if_pos rfl] at H
     replace H := Option.bind_eq_some_iff.mp H
     obtain ⟨⟨t224, t225, t226⟩, A340, H⟩ := H
     replace H : (some (t224, t225, t226, (-1))) = some (r1, r2, r3, r4) := H
     have A34 := aM A340
     clear A340
     simp only [Option.some.injEq, Prod.mk.injEq] at H
     obtain ⟨rfl, rfl, rfl, rfl⟩ := H
     have hnb35 := NB215_216.out; have hnc35 := NB216_215.out; have hnb36 := NB215_222.out; have hnc36 := NB222_215.out
     obtain ⟨hcz37_0, hcz37_1, hcz37_2, hfz37_0, hfz37_1, hfz37_2⟩ := nK3 BK215.out
     go_wp2_with (first | ((with_reducible refine gate_callee (f := 58) rfl ?_); refine goesL_ (some 34) rfl rfl Try.func58 (by kernel_rfl) rfl #[.agg #[.int .i64 a0_0, .int .i64 a0_1, .slice A0_2 l0_2.length c0_2]] rfl (by (try simp only [List.map_toArray, List.map_cons, List.map_nil]); first | done | rfl | (simp only [List.length_drop, List.length_take]; rfl)) ?_; (with_reducible refine (spec_l14Same.calls kj5 a0_0 a0_1 _ _ l0_2 t224 t225 t226 _ ?side1 ?side2 A34.out).mono ?_); (case side1 => repeat (first | exact (Kd.C_below HR0_2.out HB.out) | (with_reducible refine Kd.C_alloc ?_ _) | (with_reducible refine Kd.C_drewN ?_ _) | (with_reducible refine Kd.C_drew ?_))); (case side2 => exact HC0_2.out); rintro e w38 ⟨v227, rfl, ho0, hb⟩; refine ⟨_, rfl, ?_⟩; have n_ := aA (Kd.R_elder' (nR HO_223002.out) (Kd.R_base ho0) hb) <| aA (Kd.R_lower (Kd.R_new' ho0 (Kd.R_lt (nR HO_223002.out))) (below_size (nH3 HB.out GE215.out GE216.out GE222.out))) <| aA (nBB BK215.out hb) <| aA (nBB BK216.out hb) <| aA (nBB BK222.out hb) <| aM (below_step (nH3 HB.out GE215.out GE216.out GE222.out) hb); clear HO_223002 BK215 BK216 BK222 HB; obtain ⟨HO_223002, HO228, BK215, BK216, BK222, HB⟩ := n_; (try clear hb); (try clear hb2); (try clear hk); (try clear hi); (try clear ho0); have hnb39 := NB216_222.out; have hnc39 := NB222_216.out; obtain ⟨hcz40_0, hcz40_1, hcz40_2, hfz40_0, hfz40_1, hfz40_2⟩ := nK3 BK216.out; obtain ⟨Ao41, co41, eo41⟩ := Kd.R_slice HO228.out; subst eo41))
     refine bodyPost_ret (results_ct rfl _ _ gb216 29 #[.int .i64 t224, .int .i64 t225, .slice Ao41 t226.length co41] (0, 0) _ rfl (by refine nE ?_; refine blk_put (cs := #[.int .i64 t224, .int .i64 t225, .slice none 0 0]) ?_ 2 _ rfl; refine nE ?_; refine blk_put (cs := #[.int .i64 t224, .int .i64 0, .slice none 0 0]) ?_ 1 _ rfl; refine nE ?_; refine blk_put (cs := #[.int .i64 0, .int .i64 0, .slice none 0 0]) ?_ 0 _ rfl; refine nE ?_; exact BK216.out) Try.underlying29 rfl (by kernel_rfl)) rfl ?_
     exact ⟨_, by first | rfl | (simp [errW_none, errW_some] <;> rfl) | (simp [*, errW_none, errW_some] <;> first | rfl | (simp [wrap64]; done)), by (with_reducible repeat (first | apply Kd.R_alloc | apply Kd.R_drewN | apply Kd.R_drew)); exact Kd.R_mono (Kd.R_far (p := ⟨gb216, 2, none⟩) (Kd.R_far (p := ⟨gb216, 1, none⟩) (Kd.R_far (p := ⟨gb216, 0, none⟩) (Kd.R_types HO228.out BK216.out (by decide)) (fun _ hk => hk.2) (.int .i64 t224)) (fun _ hk => hk.2) (.int .i64 t225)) (fun _ hk => hk.2) (.slice Ao41 t226.length co41)) (fun _ hk => trivial), nH3 HB.out GE215.out GE216.out GE222.out⟩
   · replace c33 := Bool.eq_false_iff.mpr c33
     subst c33
     rw [if_neg nN] at H
     have H' := aM H
     clear H; go_wp2
     go_loopg [11] kj5 (fun kq v11 w' => ∃ (x11_2 : Int) (x217000_2 : Int) (x217001_2 : Int), v11 = .int .i64 x11_2 ∧ Aside0 (spec_Book.l0 kq a1 a2 a3 x11_2 a0_0 a0_1 l0_2 t217 t218 t219 = some (r1, r2, r3, r4)) ∧ Aside0 (kq ≤ kj5) ∧ Aside0 (Kd.R k66 66 w' w.heap.size (fun _ => True) (.slice Ao16 t219.length co16) t219) ∧ Aside0 (w'.heap[gb215]? = some (.cells #[.int .i64 a0_0, .int .i64 a0_1, (.slice A0_2 l0_2.length c0_2)] 29 (0, 0))) ∧ Aside0 (w'.heap[gb216]? = some (.cells #[.int .i64 x217000_2, .int .i64 x217001_2, (.slice none 0 0)] 29 (0, 0))) ∧ Aside0 (w'.heap[gb222]? = some (.cells #[.int .i64 t217, .int .i64 t218, (.slice Ao16 t219.length co16)] 29 (0, 0))) ∧ Aside0 (Below w.heap.size w w'))
     case atStart => exact ⟨(0), (0), (0), nS, H', ⟨Nat.le_refl _⟩, ⟨by (with_reducible repeat (first | apply Kd.R_alloc | apply Kd.R_drewN | apply Kd.R_drew)); exact HO_223002.out⟩, ⟨by refine nE ?_; exact BK215.out⟩, ⟨by refine nE ?_; exact BK216.out⟩, ⟨by refine nE ?_; exact BK222.out⟩, ⟨nH3 HB.out GE215.out GE216.out GE222.out⟩⟩
     case round =>
      clear H'
      try clear c1; try clear c2; try clear p2; try clear c3; try clear c5; try clear p6; try clear c9; try clear c13; try clear c14; try clear c18; try clear c19; try clear c19b0; try clear c20; try clear c21; try clear c24; try clear c25; try clear c29; try clear c30; try clear c33; try clear c35; try clear c36; try clear c39; try clear hcz10_0; try clear hcz10_1; try clear hcz10_2; try clear hcz15_0; try clear hcz15_1; try clear hcz15_2; try clear hcz22_0; try clear hcz22_1; try clear hcz22_2; try clear hcz26_0; try clear hcz26_1; try clear hcz26_2; try clear hcz28_0; try clear hcz28_1; try clear hcz28_2
      try clear hcz31_0; try clear hcz31_1; try clear hcz31_2; try clear hcz37_0; try clear hcz37_1; try clear hcz37_2; try clear hcz40_0; try clear hcz40_1; try clear hcz40_2; try clear hfz10_0; try clear hfz10_1; try clear hfz10_2; try clear hfz15_0; try clear hfz15_1; try clear hfz15_2; try clear hfz22_0; try clear hfz22_1; try clear hfz22_2; try clear hfz26_0; try clear hfz26_1; try clear hfz26_2; try clear hfz28_0; try clear hfz28_1; try clear hfz28_2; try clear hfz31_0; try clear hfz31_1; try clear hfz31_2; try clear hfz37_0; try clear hfz37_1; try clear hfz37_2; try clear hfz40_0; try clear hfz40_1
      try clear hfz40_2; try clear p2
      obtain ⟨x11_2, x217000_2, x217001_2, rfl, HA, HK2, HO_223002, BK215, BK216, BK222, HB⟩ := hrel
      cases gk with
      | zero => exact absurd HA.out (by simp [spec_Book.l0])
      | succ k2 =>
       have H := HA.out; clear HA
       simp only [spec_Book.l0] at H
       by_cases c42 : x11_2 < (l0_2.length : Int)
       · rw [if_pos c42] at H
         have c42b0 : decide (x11_2 < (l0_2.length : Int)) = true := decide_eq_true c42
         clear c42
         by_cases c43 : 0 ≤ x11_2
         rotate_left
         · (rw [if_neg c43] at H; exact absurd H (by simp))
         rw [if_pos c43] at H
         have c43b0 : decide (0 ≤ x11_2) = true := decide_eq_true c43
         clear c43
         by_cases c44 : ((rd_T66 l0_2 x11_2).f0) = a1
         · rw [if_pos c44] at H
           have c44b0 : (((rd_T66 l0_2 x11_2).f0) == a1) = true := beq_iff_eq.mpr c44
           have c44b1 : (((rd_T66 l0_2 x11_2).f0) != a1) = false := bne_eq_false_iff_eq.mpr c44
           clear c44
           simp only [Option.some.injEq, Prod.mk.injEq] at H
           obtain ⟨rfl, rfl, rfl, rfl⟩ := H
           have hnb45 := NB215_216.out; have hnc45 := NB216_215.out; have hnb46 := NB215_222.out; have hnc46 := NB222_215.out
           obtain ⟨hcz47_0, hcz47_1, hcz47_2, hfz47_0, hfz47_1, hfz47_2⟩ := nK3 BK215.out
           have p229 : 0 ≤ (x11_2 : Int) := of_decide_eq_true nQ
           have q229 : x11_2 < (l0_2.length : Int) := of_decide_eq_true nQ
           obtain ⟨ad229, e229, hx229_0, hx229_1, hx229_2, hx229_3⟩ := at_T66 HR0_2.out x11_2 p229 q229
           cases e229
           replace hx229_0 := (HB.out.cell (World.block_lt_of_cell? w _ hx229_0)).trans hx229_0
           replace hx229_1 := (HB.out.cell (World.block_lt_of_cell? w _ hx229_1)).trans hx229_1
           replace hx229_2 := (HB.out.cell (World.block_lt_of_cell? w _ hx229_2)).trans hx229_2
           replace hx229_3 := (HB.out.cell (World.block_lt_of_cell? w _ hx229_3)).trans hx229_3
           replace p229 := eq_true p229; replace q229 := eq_true q229; have hnb48 := NB222_216.out; have hnc48 := NB216_222.out
           obtain ⟨hcz49_0, hcz49_1, hcz49_2, hfz49_0, hfz49_1, hfz49_2⟩ := nK3 BK222.out
           obtain ⟨hcz50_0, hcz50_1, hcz50_2, hfz50_0, hfz50_1, hfz50_2⟩ := nK3 BK216.out
           go_wp2
           refine bodyPost_ret (results_ct rfl _ _ gb216 29 #[.int .i64 t217, .int .i64 t218, .slice Ao16 t219.length co16] (0, 0) _ rfl (by refine nE ?_; refine blk_put (cs := #[.int .i64 t217, .int .i64 t218, .slice none 0 0]) ?_ 2 _ rfl; refine nE ?_; refine blk_put (cs := #[.int .i64 t217, .int .i64 x217001_2, .slice none 0 0]) ?_ 1 _ rfl; refine nE ?_; refine blk_put (cs := #[.int .i64 x217000_2, .int .i64 x217001_2, .slice none 0 0]) ?_ 0 _ rfl; refine nE ?_; exact BK216.out) Try.underlying29 rfl (by kernel_rfl)) rfl ?_
           exact ⟨_, by first | rfl | (simp [errW_none, errW_some] <;> rfl) | (simp [*, errW_none, errW_some] <;> first | rfl | (simp [wrap64]; done)), by (with_reducible repeat (first | apply Kd.R_alloc | apply Kd.R_drewN | apply Kd.R_drew)); exact Kd.R_mono (Kd.R_far (p := ⟨gb216, 2, none⟩) (Kd.R_far (p := ⟨gb216, 1, none⟩) (Kd.R_far (p := ⟨gb216, 0, none⟩) (Kd.R_types HO_223002.out BK216.out (by decide)) (fun _ hk => hk.2) (.int .i64 t217)) (fun _ hk => hk.2) (.int .i64 t218)) (fun _ hk => hk.2) (.slice Ao16 t219.length co16)) (fun _ hk => trivial), nH3 HB.out GE215.out GE216.out GE222.out⟩
         · rw [if_neg c44] at H
           have c44b0 : (((rd_T66 l0_2 x11_2).f0) == a1) = false := beq_eq_false_iff_ne.mpr c44
           have c44b1 : (((rd_T66 l0_2 x11_2).f0) != a1) = true := bne_iff_ne.mpr c44
           have H' := aM H
           clear H; have hnb51 := NB215_216.out; have hnc51 := NB216_215.out; have hnb52 := NB215_222.out; have hnc52 := NB222_215.out
           obtain ⟨hcz53_0, hcz53_1, hcz53_2, hfz53_0, hfz53_1, hfz53_2⟩ := nK3 BK215.out
           have p229 : 0 ≤ (x11_2 : Int) := of_decide_eq_true nQ
           have q229 : x11_2 < (l0_2.length : Int) := of_decide_eq_true nQ
           obtain ⟨ad229, e229, hx229_0, hx229_1, hx229_2, hx229_3⟩ := at_T66 HR0_2.out x11_2 p229 q229
           cases e229
           replace hx229_0 := (HB.out.cell (World.block_lt_of_cell? w _ hx229_0)).trans hx229_0
           replace hx229_1 := (HB.out.cell (World.block_lt_of_cell? w _ hx229_1)).trans hx229_1
           replace hx229_2 := (HB.out.cell (World.block_lt_of_cell? w _ hx229_2)).trans hx229_2
           replace hx229_3 := (HB.out.cell (World.block_lt_of_cell? w _ hx229_3)).trans hx229_3
           replace p229 := eq_true p229; replace q229 := eq_true q229; go_wp2
           go_roundg k2
           case measure => have := HJ5.out; have := HK2.out; omega
           case rel => exact ⟨(wrap64 (x11_2 + 1)), (x217000_2), (x217001_2), nS, H', ⟨by have := HJ5.out; have := HK2.out; omega⟩, ⟨by (with_reducible repeat (first | apply Kd.R_alloc | apply Kd.R_drewN | apply Kd.R_drew)); exact HO_223002.out⟩, ⟨by refine nE ?_; exact BK215.out⟩, ⟨by refine nE ?_; exact BK216.out⟩, ⟨by refine nE ?_; exact BK222.out⟩, ⟨nH3 HB.out GE215.out GE216.out GE222.out⟩⟩
       · rw [if_neg c42] at H
         have c42b0 : decide (x11_2 < (l0_2.length : Int)) = false := decide_eq_false c42
         clear c42
         obtain ⟨t230, A540, H⟩ := Option.bind_eq_some_iff.mp H
         have A54 := aM A540
         clear A540
         have H' := aM H
         clear H; have hnb55 := NB215_216.out; have hnc55 := NB216_215.out; have hnb56 := NB215_222.out; have hnc56 := NB222_215.out
         obtain ⟨hcz57_0, hcz57_1, hcz57_2, hfz57_0, hfz57_1, hfz57_2⟩ := nK3 BK215.out
         go_wp2_with (first | ((with_reducible refine gate_callee (f := 17) rfl ?_); refine goesL_ (some 54) rfl rfl Try.func17 (by kernel_rfl) rfl #[.agg #[.int .i64 a0_0, .int .i64 a0_1, .slice A0_2 l0_2.length c0_2], .int .i64 a2, .int .i64 a3] rfl (by (try simp only [List.map_toArray, List.map_cons, List.map_nil]); first | done | rfl | (simp only [List.length_drop, List.length_take]; rfl)) ?_; (with_reducible refine (spec_FreeSeats.calls k2 a0_0 a0_1 _ _ l0_2 a2 a3 t230 _ ?side1 ?side2 A54.out).mono ?_); (case side1 => repeat (first | exact (Kd.C_below HR0_2.out HB.out) | (with_reducible refine Kd.C_alloc ?_ _) | (with_reducible refine Kd.C_drewN ?_ _) | (with_reducible refine Kd.C_drew ?_))); (case side2 => exact HC0_2.out); rintro e w58 ⟨v231, rfl, ho0, hb⟩; refine ⟨_, rfl, ?_⟩; have n_ := aA (Kd.R_below (nR HO_223002.out) hb) <| aA (Kd.R_lower ho0 (below_size (nH3 HB.out GE215.out GE216.out GE222.out))) <| aA (nBB BK215.out hb) <| aA (nBB BK216.out hb) <| aA (nBB BK222.out hb) <| aM (below_step (nH3 HB.out GE215.out GE216.out GE222.out) hb); clear HO_223002 BK215 BK216 BK222 HB; obtain ⟨HO_223002, HO232, BK215, BK216, BK222, HB⟩ := n_; (try clear hb); (try clear hb2); (try clear hk); (try clear hi); (try clear ho0)))
         go_loopg [13, 14] k2 (fun kq v13 v14 w' => ∃ (x13_3 : Int) (x14_3 : Int), v13 = .int .i64 x13_3 ∧ v14 = .int .i64 x14_3 ∧ Aside0 (spec_Book.l1 kq a1 a2 a3 t230 x13_3 x14_3 a0_0 a0_1 l0_2 t217 t218 t219 = some (r1, r2, r3, r4)) ∧ Aside0 (kq ≤ k2) ∧ Aside0 (Kd.R (Kd.int .i64) 3 w' w.heap.size (fun _ => True) v231 t230) ∧ Aside0 (Kd.R k66 66 w' w.heap.size (fun _ => True) (.slice Ao16 t219.length co16) t219) ∧ Aside0 (w'.heap[gb215]? = some (.cells #[.int .i64 a0_0, .int .i64 a0_1, (.slice A0_2 l0_2.length c0_2)] 29 (0, 0))) ∧ Aside0 (w'.heap[gb216]? = some (.cells #[.int .i64 x217000_2, .int .i64 x217001_2, (.slice none 0 0)] 29 (0, 0))) ∧ Aside0 (w'.heap[gb222]? = some (.cells #[.int .i64 t217, .int .i64 t218, (.slice Ao16 t219.length co16)] 29 (0, 0))) ∧ Aside0 (Below w.heap.size w w'))
         case atStart => exact ⟨((-1)), (0), nS, nS, H', ⟨Nat.le_refl _⟩, ⟨by (with_reducible repeat (first | apply Kd.R_alloc | apply Kd.R_drewN | apply Kd.R_drew)); exact HO232.out⟩, ⟨by (with_reducible repeat (first | apply Kd.R_alloc | apply Kd.R_drewN | apply Kd.R_drew)); exact HO_223002.out⟩, ⟨by refine nE ?_; exact BK215.out⟩, ⟨by refine nE ?_; exact BK216.out⟩, ⟨by refine nE ?_; exact BK222.out⟩, ⟨nH3 HB.out GE215.out GE216.out GE222.out⟩⟩
         case round =>
          clear H'
          try clear c1; try clear c2; try clear p2; try clear q2; try clear hx2; try clear c3; try clear c4; try clear c5; try clear p6; try clear c9; try clear c13; try clear c14; try clear c17; try clear c18; try clear c19; try clear c19b0; try clear c20; try clear c21; try clear p22; try clear q22; try clear hx22; try clear c24; try clear c25; try clear c29; try clear c30; try clear c33; try clear c35; try clear c36; try clear c39; try clear c42; try clear c42b0; try clear c43; try clear c43b0; try clear c44; try clear c44b0; try clear c44b1; try clear c45; try clear c46; try clear c48; try clear c50
          try clear c51; try clear c52; try clear c55; try clear c56; try clear c58; try clear hcz10_0; try clear hcz10_1; try clear hcz10_2; try clear hcz15_0; try clear hcz15_1; try clear hcz15_2; try clear hcz22_0; try clear hcz22_1; try clear hcz22_2; try clear hcz26_0; try clear hcz26_1; try clear hcz26_2; try clear hcz28_0; try clear hcz28_1; try clear hcz28_2; try clear hcz31_0; try clear hcz31_1; try clear hcz31_2; try clear hcz37_0; try clear hcz37_1; try clear hcz37_2; try clear hcz40_0; try clear hcz40_1; try clear hcz40_2; try clear hcz47_0; try clear hcz47_1; try clear hcz47_2; try clear hcz49_0
          try clear hcz49_1; try clear hcz49_2; try clear hcz50_0; try clear hcz50_1; try clear hcz50_2; try clear hcz53_0; try clear hcz53_1; try clear hcz53_2; try clear hcz57_0; try clear hcz57_1; try clear hcz57_2; try clear hfz10_0; try clear hfz10_1; try clear hfz10_2; try clear hfz15_0; try clear hfz15_1; try clear hfz15_2; try clear hfz22_0; try clear hfz22_1; try clear hfz22_2; try clear hfz26_0; try clear hfz26_1; try clear hfz26_2; try clear hfz28_0; try clear hfz28_1; try clear hfz28_2; try clear hfz31_0; try clear hfz31_1; try clear hfz31_2; try clear hfz37_0; try clear hfz37_1; try clear hfz37_2
          try clear hfz40_0; try clear hfz40_1; try clear hfz40_2; try clear hfz47_0; try clear hfz47_1; try clear hfz47_2; try clear hfz49_0; try clear hfz49_1; try clear hfz49_2; try clear hfz50_0; try clear hfz50_1; try clear hfz50_2; try clear hfz53_0; try clear hfz53_1; try clear hfz53_2; try clear hfz57_0; try clear hfz57_1; try clear hfz57_2; try clear hx229_0; try clear hx229_1; try clear hx229_2; try clear hx229_3; try clear p2; try clear p229; try clear p6; try clear q229
          obtain ⟨x13_3, x14_3, rfl, rfl, HA, HK3, HO_12, HO_223002, BK215, BK216, BK222, HB⟩ := hrel
          cases gk with
          | zero => exact absurd HA.out (by simp [spec_Book.l1])
          | succ k3 =>
           have H := HA.out; clear HA
           simp only [spec_Book.l1] at H
           by_cases c59 : x14_3 < (t230.length : Int)
           · rw [if_pos c59] at H
             have c59b0 : decide (x14_3 < (t230.length : Int)) = true := decide_eq_true c59
             clear c59
             by_cases c60 : x13_3 < 0
             · rw [if_pos c60] at H
               have c60b0 : decide (x13_3 < 0) = true := decide_eq_true c60
               clear c60
               by_cases c61 : 0 ≤ x14_3
               rotate_left
               · (rw [if_neg c61] at H; exact absurd H (by simp))
               rw [if_pos c61] at H
               have c61b0 : decide (0 ≤ x14_3) = true := decide_eq_true c61
               clear c61
               have H' := aM H
               clear H
               obtain ⟨Ao62, co62, eo62⟩ := Kd.R_slice HO_12.out
               subst eo62
               try go_wp2
               have n_ := aA (Kd.R_drew HO_12.out) <| aA (Kd.R_drew HO_223002.out) <| aA (blk_drew BK215.out) <| aA (blk_drew BK216.out) <| aA (blk_drew BK222.out) <| aM (below_drew1 HB.out); clear HO_12 HO_223002 BK215 BK216 BK222 HB; obtain ⟨HO_12, HO_223002, BK215, BK216, BK222, HB⟩ := n_
               refine start_ (n := 18) (S := fun w' => True) (ds := []) #[F,F,F,F,F,F,F,F,F,F,F,F,F,F,F,F,F,F] (by kernel_rfl) rfl rfl trivial (fun hHeld => ?_); refine with_tabW spec_Book.tab14 spec_Book.bits14 (fun HT_ HW_ => ?_)
               generalize wr.drew = w63 at HO_12 HO_223002 BK215 BK216 BK222 HB hHeld ⊢
               refine pU 0 (some 61) #[T,F,F,F,F,F,F,F,F,F,F,F,F,F,F,F,F,F] rfl rfl HT_.out ?_
               refine pU 1 (some 62) #[T,T,F,F,F,F,F,F,F,F,F,F,F,F,F,F,F,F] rfl rfl HT_.out ?_
               refine pU 2 (some 63) #[T,T,T,F,F,F,F,F,F,F,F,F,F,F,F,F,F,F] rfl rfl HT_.out ?_
               refine pV 3 (some 64) #[T,T,T,T,F,F,F,F,F,F,F,F,F,F,F,F,F,F] rfl rfl HT_.out ?_
               refine pV 4 (some 65) #[T,T,T,T,T,F,F,F,F,F,F,F,F,F,F,F,F,F] rfl rfl HT_.out ?_
               refine pV 5 (some 66) #[T,T,T,T,T,T,F,F,F,F,F,F,F,F,F,F,F,F] rfl rfl HT_.out ?_
               refine pV 6 (some 67) #[T,T,T,T,T,T,T,F,F,F,F,F,F,F,F,F,F,F] rfl rfl HT_.out ?_
               refine pV 7 (some 68) #[T,T,T,T,T,T,T,T,F,F,F,F,F,F,F,F,F,F] rfl rfl HT_.out ?_
               refine pV 8 (some 69) #[T,T,T,T,T,T,T,T,T,F,F,F,F,F,F,F,F,F] rfl rfl HT_.out ?_
               refine pV 9 (some 70) #[T,T,T,T,T,T,T,T,T,T,F,F,F,F,F,F,F,F] rfl rfl HT_.out ?_
               refine pV 10 (some 71) #[T,T,T,T,T,T,T,T,T,T,T,F,F,F,F,F,F,F] rfl rfl HT_.out ?_
               refine pV 11 (some 72) #[T,T,T,T,T,T,T,T,T,T,T,T,F,F,F,F,F,F] rfl rfl HT_.out ?_
               refine pV 12 (some 73) #[T,T,T,T,T,T,T,T,T,T,T,T,T,F,F,F,F,F] rfl rfl HT_.out ?_
               refine pV 13 (some 74) #[T,T,T,T,T,T,T,T,T,T,T,T,T,T,F,F,F,F] rfl rfl HT_.out ?_
               refine pV 14 (some 75) #[T,T,T,T,T,T,T,T,T,T,T,T,T,T,T,F,F,F] rfl rfl HT_.out ?_
               refine pV 15 (some 76) #[T,T,T,T,T,T,T,T,T,T,T,T,T,T,T,T,F,F] rfl rfl HT_.out ?_
               refine pV 16 (some 77) #[T,T,T,T,T,T,T,T,T,T,T,T,T,T,T,T,T,F] rfl rfl HT_.out ?_
               refine pU 17 (some 78) #[T,T,T,T,T,T,T,T,T,T,T,T,T,T,T,T,T,T] rfl rfl HT_.out ?_
               refine done_ (done_of HT_.out (by kernel_rfl)) ?_
               have p238 : 0 ≤ (x14_3 : Int) := of_decide_eq_true nQ
               have q238 : x14_3 < (t230.length : Int) := of_decide_eq_true nQ
               obtain ⟨ad238, e238, hx238_0⟩ := Kd.at_int (Kd.R_reads' HO_12.out).2.2 x14_3 p238 q238
               cases e238; replace p238 := eq_true p238; replace q238 := eq_true q238
               try go_wp2
               go_roundg k3
               case measure => have := HJ5.out; have := HK2.out; have := HK3.out; omega
               case rel => exact ⟨(rd t230 x14_3), (wrap64 (x14_3 + 1)), nS, nS, H', ⟨by have := HJ5.out; have := HK2.out; have := HK3.out; omega⟩, ⟨by (with_reducible repeat (first | apply Kd.R_alloc | apply Kd.R_drewN | apply Kd.R_drew)); exact HO_12.out⟩, ⟨by (with_reducible repeat (first | apply Kd.R_alloc | apply Kd.R_drewN | apply Kd.R_drew)); exact HO_223002.out⟩, ⟨by refine nE ?_; exact BK215.out⟩, ⟨by refine nE ?_; exact BK216.out⟩, ⟨by refine nE ?_; exact BK222.out⟩, ⟨nH3 HB.out GE215.out GE216.out GE222.out⟩⟩
             · rw [if_neg c60] at H
               have c60b0 : decide (x13_3 < 0) = false := decide_eq_false c60
               clear c60
               by_cases c64 : 0 ≤ x14_3
               rotate_left
               · (rw [if_neg c64] at H; exact absurd H (by simp))
               rw [if_pos c64] at H
               have c64b0 : decide (0 ≤ x14_3) = true := decide_eq_true c64
               clear c64
               obtain ⟨t240, A650, H⟩ := Option.bind_eq_some_iff.mp H
               have A65 := aM A650
               clear A650
               obtain ⟨t241, A660, H⟩ := Option.bind_eq_some_iff.mp H
               have A66 := aM A660
               clear A660
               by_cases c67 : t240 < t241
               · rw [if_pos c67] at H
                 have c67b0 : decide (t240 < t241) = true := decide_eq_true c67
                 clear c67
                 have H' := aM H
                 clear H
                 obtain ⟨Ao68, co68, eo68⟩ := Kd.R_slice HO_12.out
                 subst eo68
                 try go_wp2
                 have n_ := aA (Kd.R_drew HO_12.out) <| aA (Kd.R_drew HO_223002.out) <| aA (blk_drew BK215.out) <| aA (blk_drew BK216.out) <| aA (blk_drew BK222.out) <| aM (below_drew1 HB.out); clear HO_12 HO_223002 BK215 BK216 BK222 HB; obtain ⟨HO_12, HO_223002, BK215, BK216, BK222, HB⟩ := n_
                 have p239 : 0 ≤ (x14_3 : Int) := of_decide_eq_true nQ
                 have q239 : x14_3 < (t230.length : Int) := of_decide_eq_true nQ
                 obtain ⟨ad239, e239, hx239_0⟩ := Kd.at_int (Kd.R_reads' HO_12.out).2.2 x14_3 p239 q239
                 cases e239; replace p239 := eq_true p239; replace q239 := eq_true q239
                 refine start_ (n := 18) (S := fun w' => w'.cell? ⟨gb215, 0, none⟩ = some (.int .i64 a0_0) ∧ w'.cell? ⟨gb215, 1, none⟩ = some (.int .i64 a0_1) ∧ w'.cell? ⟨gb215, 2, none⟩ = some (.slice A0_2 l0_2.length c0_2) ∧ w'.cell? (ad239.add (x14_3).toNat) = some (.int .i64 (rd t230 x14_3))) (ds := []) #[F,F,F,F,F,F,F,F,F,F,F,F,F,F,F,F,F,F] (by kernel_rfl) rfl rfl ⟨(blk_cell BK215.out 0).trans rfl, (blk_cell BK215.out 1).trans rfl, (blk_cell BK215.out 2).trans rfl, hx239_0⟩ (fun hHeld => ?_); refine with_tabW spec_Book.tab14 spec_Book.bits14 (fun HT_ HW_ => ?_)
                 generalize wr.drew = w69 at HO_12 HO_223002 BK215 BK216 BK222 HB hx239_0 hHeld ⊢
                 refine pU 0 (some 61) #[T,F,F,F,F,F,F,F,F,F,F,F,F,F,F,F,F,F] rfl rfl HT_.out ?_
                 refine pU 1 (some 62) #[T,T,F,F,F,F,F,F,F,F,F,F,F,F,F,F,F,F] rfl rfl HT_.out ?_
                 refine pU 2 (some 63) #[T,T,T,F,F,F,F,F,F,F,F,F,F,F,F,F,F,F] rfl rfl HT_.out ?_
                 refine pU 4 (some 65) #[T,T,T,F,T,F,F,F,F,F,F,F,F,F,F,F,F,F] rfl rfl HT_.out ?_
                 refine pU 5 (some 66) #[T,T,T,F,T,T,F,F,F,F,F,F,F,F,F,F,F,F] rfl rfl HT_.out ?_
                 refine pU 6 (some 67) #[T,T,T,F,T,T,T,F,F,F,F,F,F,F,F,F,F,F] rfl rfl HT_.out ?_
                 refine pU 8 (some 69) #[T,T,T,F,T,T,T,F,T,F,F,F,F,F,F,F,F,F] rfl rfl HT_.out ?_
                 refine pU 9 (some 70) #[T,T,T,F,T,T,T,F,T,T,F,F,F,F,F,F,F,F] rfl rfl HT_.out ?_
                 refine pU 12 (some 73) #[T,T,T,F,T,T,T,F,T,T,F,F,T,F,F,F,F,F] rfl rfl HT_.out ?_
                 refine pU 13 (some 74) #[T,T,T,F,T,T,T,F,T,T,F,F,T,T,F,F,F,F] rfl rfl HT_.out ?_
                 refine pU 14 (some 75) #[T,T,T,F,T,T,T,F,T,T,F,F,T,T,T,F,F,F] rfl rfl HT_.out ?_
                 refine tU4 3 (some 64) #[T,T,T,T,T,T,T,F,T,T,F,F,T,T,T,F,F,F] rfl rfl HT_.out HW_.out hHeld ?_
                 refine tU4 7 (some 68) #[T,T,T,T,T,T,T,T,T,T,F,F,T,T,T,F,F,F] rfl rfl HT_.out HW_.out hHeld ?_
                 refine tU4 11 (some 72) #[T,T,T,T,T,T,T,T,T,T,F,T,T,T,T,F,F,F] rfl rfl HT_.out HW_.out hHeld ?_
                 refine one_ (i := 10) (N := some 71) #[T,T,T,T,T,T,T,T,T,T,T,T,T,T,T,F,F,F] rfl rfl (one_of HT_.out (by kernel_rfl)) (by decide) (fun K hK => ?_)
                 refine goes_ Try.func23 (by kernel_rfl) rfl #[.agg #[.int .i64 a0_0, .int .i64 a0_1, .slice A0_2 l0_2.length c0_2], .int .i64 (rd t230 x14_3), .int .i64 a2, .int .i64 a3] (by rfl) rfl rfl (by (try simp only [List.map_toArray, List.map_cons, List.map_nil]); first | done | rfl | (simp only [List.length_drop, List.length_take]; rfl)) ?_
                 with_reducible refine (spec_Hole.calls k3 a0_0 a0_1 _ _ l0_2 (rd t230 x14_3) a2 a3 t240 _ ?side1 ?side2 A65.out).mono ?_
                 (case side1 => repeat (first | exact (Kd.C_below HR0_2.out HB.out) | (with_reducible refine Kd.C_alloc ?_ _) | (with_reducible refine Kd.C_drewN ?_ _) | (with_reducible refine Kd.C_drew ?_)))
                 (case side2 => exact HC0_2.out)
                 rintro e w70 ⟨rfl, hb⟩
                 have HS3_ := (hb.cell (World.block_lt_of_cell? _ _ (hHeld.2.2.2))).trans (hHeld.2.2.2)
                 refine ⟨_, rfl, ?_⟩
                 have n_ := aA (Kd.R_below (nR HO_12.out) hb) <| aA (Kd.R_below (nR HO_223002.out) hb) <| aA (nBB BK215.out hb) <| aA (nBB BK216.out hb) <| aA (nBB BK222.out hb) <| aM (below_step (nH3 HB.out GE215.out GE216.out GE222.out) hb); clear HO_12 HO_223002 BK215 BK216 BK222 HB; obtain ⟨HO_12, HO_223002, BK215, BK216, BK222, HB⟩ := n_; (try clear hb); (try clear hb2); (try clear hk); (try clear hi)
                 refine hK.out _ _ ⟨(blk_cell BK215.out 0).trans rfl, (blk_cell BK215.out 1).trans rfl, (blk_cell BK215.out 2).trans rfl, HS3_⟩ (fun hHeld => ?_)
                 clear hK K
                 refine norm_ (a' := ?_) ?_ ?_
                 rotate_left
                 · show Act.put _ (some 71) _ = _
                   simp only [Act.put, List.setIfInBounds_toArray, List.set_cons_zero, List.set_cons_succ, i64_w, i32_w]
                   rfl
                 refine one_ (i := 15) (N := some 76) #[T,T,T,T,T,T,T,T,T,T,T,T,T,T,T,T,F,F] rfl rfl (one_of HT_.out (by kernel_rfl)) (by decide) (fun K hK => ?_)
                 refine goes_ Try.func23 (by kernel_rfl) rfl #[.agg #[.int .i64 a0_0, .int .i64 a0_1, .slice A0_2 l0_2.length c0_2], .int .i64 x13_3, .int .i64 a2, .int .i64 a3] (by rfl) rfl rfl (by (try simp only [List.map_toArray, List.map_cons, List.map_nil]); first | done | rfl | (simp only [List.length_drop, List.length_take]; rfl)) ?_
                 with_reducible refine (spec_Hole.calls k3 a0_0 a0_1 _ _ l0_2 x13_3 a2 a3 t241 _ ?side1 ?side2 A66.out).mono ?_
                 (case side1 => repeat (first | exact (Kd.C_below HR0_2.out HB.out) | (with_reducible refine Kd.C_alloc ?_ _) | (with_reducible refine Kd.C_drewN ?_ _) | (with_reducible refine Kd.C_drew ?_)))
                 (case side2 => exact HC0_2.out)
                 rintro e w71 ⟨rfl, hb⟩
                 have HS3_ := (hb.cell (World.block_lt_of_cell? _ _ (hHeld.2.2.2))).trans (hHeld.2.2.2)
                 refine ⟨_, rfl, ?_⟩
                 have n_ := aA (Kd.R_below (nR HO_12.out) hb) <| aA (Kd.R_below (nR HO_223002.out) hb) <| aA (nBB BK215.out hb) <| aA (nBB BK216.out hb) <| aA (nBB BK222.out hb) <| aM (below_step (nH3 HB.out GE215.out GE216.out GE222.out) hb); clear HO_12 HO_223002 BK215 BK216 BK222 HB; obtain ⟨HO_12, HO_223002, BK215, BK216, BK222, HB⟩ := n_; (try clear hb); (try clear hb2); (try clear hk); (try clear hi)
                 refine hK.out _ _ ⟨(blk_cell BK215.out 0).trans rfl, (blk_cell BK215.out 1).trans rfl, (blk_cell BK215.out 2).trans rfl, HS3_⟩ (fun hHeld => ?_)
                 clear hK K
                 refine norm_ (a' := ?_) ?_ ?_
                 rotate_left
                 · show Act.put _ (some 76) _ = _
                   simp only [Act.put, List.setIfInBounds_toArray, List.set_cons_zero, List.set_cons_succ, i64_w, i32_w]
                   rfl
                 refine pU 16 (some 77) #[T,T,T,T,T,T,T,T,T,T,T,T,T,T,T,T,T,F] rfl rfl HT_.out ?_
                 refine pU 17 (some 78) #[T,T,T,T,T,T,T,T,T,T,T,T,T,T,T,T,T,T] rfl rfl HT_.out ?_
                 refine done_ (done_of HT_.out (by kernel_rfl)) ?_
                 have p242 : 0 ≤ (x14_3 : Int) := of_decide_eq_true nQ
                 have q242 : x14_3 < (t230.length : Int) := of_decide_eq_true nQ
                 obtain ⟨ad242, e242, hx242_0⟩ := Kd.at_int (Kd.R_reads' HO_12.out).2.2 x14_3 p242 q242
                 obtain rfl : ad239 = ad242 := (by injection e242)
                 replace p242 := eq_true p242; replace q242 := eq_true q242
                 try go_wp2
                 go_roundg k3
                 case measure => have := HJ5.out; have := HK2.out; have := HK3.out; omega
                 case rel => exact ⟨(rd t230 x14_3), (wrap64 (x14_3 + 1)), nS, nS, H', ⟨by have := HJ5.out; have := HK2.out; have := HK3.out; omega⟩, ⟨by (with_reducible repeat (first | apply Kd.R_alloc | apply Kd.R_drewN | apply Kd.R_drew)); exact HO_12.out⟩, ⟨by (with_reducible repeat (first | apply Kd.R_alloc | apply Kd.R_drewN | apply Kd.R_drew)); exact HO_223002.out⟩, ⟨by refine nE ?_; exact BK215.out⟩, ⟨by refine nE ?_; exact BK216.out⟩, ⟨by refine nE ?_; exact BK222.out⟩, ⟨nH3 HB.out GE215.out GE216.out GE222.out⟩⟩
               · rw [if_neg c67] at H
                 have c67b0 : decide (t240 < t241) = false := decide_eq_false c67
                 clear c67
                 have H' := aM H
                 clear H
                 obtain ⟨Ao72, co72, eo72⟩ := Kd.R_slice HO_12.out
                 subst eo72
                 try go_wp2
                 have n_ := aA (Kd.R_drew HO_12.out) <| aA (Kd.R_drew HO_223002.out) <| aA (blk_drew BK215.out) <| aA (blk_drew BK216.out) <| aA (blk_drew BK222.out) <| aM (below_drew1 HB.out); clear HO_12 HO_223002 BK215 BK216 BK222 HB; obtain ⟨HO_12, HO_223002, BK215, BK216, BK222, HB⟩ := n_
                 have p239 : 0 ≤ (x14_3 : Int) := of_decide_eq_true nQ
                 have q239 : x14_3 < (t230.length : Int) := of_decide_eq_true nQ
                 obtain ⟨ad239, e239, hx239_0⟩ := Kd.at_int (Kd.R_reads' HO_12.out).2.2 x14_3 p239 q239
                 cases e239; replace p239 := eq_true p239; replace q239 := eq_true q239
                 refine start_ (n := 18) (S := fun w' => w'.cell? ⟨gb215, 0, none⟩ = some (.int .i64 a0_0) ∧ w'.cell? ⟨gb215, 1, none⟩ = some (.int .i64 a0_1) ∧ w'.cell? ⟨gb215, 2, none⟩ = some (.slice A0_2 l0_2.length c0_2) ∧ w'.cell? (ad239.add (x14_3).toNat) = some (.int .i64 (rd t230 x14_3))) (ds := []) #[F,F,F,F,F,F,F,F,F,F,F,F,F,F,F,F,F,F] (by kernel_rfl) rfl rfl ⟨(blk_cell BK215.out 0).trans rfl, (blk_cell BK215.out 1).trans rfl, (blk_cell BK215.out 2).trans rfl, hx239_0⟩ (fun hHeld => ?_); refine with_tabW spec_Book.tab14 spec_Book.bits14 (fun HT_ HW_ => ?_)
                 generalize wr.drew = w73 at HO_12 HO_223002 BK215 BK216 BK222 HB hx239_0 hHeld ⊢
                 refine pU 0 (some 61) #[T,F,F,F,F,F,F,F,F,F,F,F,F,F,F,F,F,F] rfl rfl HT_.out ?_
                 refine pU 1 (some 62) #[T,T,F,F,F,F,F,F,F,F,F,F,F,F,F,F,F,F] rfl rfl HT_.out ?_
                 refine pU 2 (some 63) #[T,T,T,F,F,F,F,F,F,F,F,F,F,F,F,F,F,F] rfl rfl HT_.out ?_
                 refine pU 4 (some 65) #[T,T,T,F,T,F,F,F,F,F,F,F,F,F,F,F,F,F] rfl rfl HT_.out ?_
                 refine pU 5 (some 66) #[T,T,T,F,T,T,F,F,F,F,F,F,F,F,F,F,F,F] rfl rfl HT_.out ?_
                 refine pU 6 (some 67) #[T,T,T,F,T,T,T,F,F,F,F,F,F,F,F,F,F,F] rfl rfl HT_.out ?_
                 refine pU 8 (some 69) #[T,T,T,F,T,T,T,F,T,F,F,F,F,F,F,F,F,F] rfl rfl HT_.out ?_
                 refine pU 9 (some 70) #[T,T,T,F,T,T,T,F,T,T,F,F,F,F,F,F,F,F] rfl rfl HT_.out ?_
                 refine pU 12 (some 73) #[T,T,T,F,T,T,T,F,T,T,F,F,T,F,F,F,F,F] rfl rfl HT_.out ?_
                 refine pU 13 (some 74) #[T,T,T,F,T,T,T,F,T,T,F,F,T,T,F,F,F,F] rfl rfl HT_.out ?_
                 refine pU 14 (some 75) #[T,T,T,F,T,T,T,F,T,T,F,F,T,T,T,F,F,F] rfl rfl HT_.out ?_
                 refine tU4 3 (some 64) #[T,T,T,T,T,T,T,F,T,T,F,F,T,T,T,F,F,F] rfl rfl HT_.out HW_.out hHeld ?_
                 refine tU4 7 (some 68) #[T,T,T,T,T,T,T,T,T,T,F,F,T,T,T,F,F,F] rfl rfl HT_.out HW_.out hHeld ?_
                 refine tU4 11 (some 72) #[T,T,T,T,T,T,T,T,T,T,F,T,T,T,T,F,F,F] rfl rfl HT_.out HW_.out hHeld ?_
                 refine one_ (i := 10) (N := some 71) #[T,T,T,T,T,T,T,T,T,T,T,T,T,T,T,F,F,F] rfl rfl (one_of HT_.out (by kernel_rfl)) (by decide) (fun K hK => ?_)
                 refine goes_ Try.func23 (by kernel_rfl) rfl #[.agg #[.int .i64 a0_0, .int .i64 a0_1, .slice A0_2 l0_2.length c0_2], .int .i64 (rd t230 x14_3), .int .i64 a2, .int .i64 a3] (by rfl) rfl rfl (by (try simp only [List.map_toArray, List.map_cons, List.map_nil]); first | done | rfl | (simp only [List.length_drop, List.length_take]; rfl)) ?_
                 with_reducible refine (spec_Hole.calls k3 a0_0 a0_1 _ _ l0_2 (rd t230 x14_3) a2 a3 t240 _ ?side1 ?side2 A65.out).mono ?_
                 (case side1 => repeat (first | exact (Kd.C_below HR0_2.out HB.out) | (with_reducible refine Kd.C_alloc ?_ _) | (with_reducible refine Kd.C_drewN ?_ _) | (with_reducible refine Kd.C_drew ?_)))
                 (case side2 => exact HC0_2.out)
                 rintro e w74 ⟨rfl, hb⟩
                 have HS3_ := (hb.cell (World.block_lt_of_cell? _ _ (hHeld.2.2.2))).trans (hHeld.2.2.2)
                 refine ⟨_, rfl, ?_⟩
                 have n_ := aA (Kd.R_below (nR HO_12.out) hb) <| aA (Kd.R_below (nR HO_223002.out) hb) <| aA (nBB BK215.out hb) <| aA (nBB BK216.out hb) <| aA (nBB BK222.out hb) <| aM (below_step (nH3 HB.out GE215.out GE216.out GE222.out) hb); clear HO_12 HO_223002 BK215 BK216 BK222 HB; obtain ⟨HO_12, HO_223002, BK215, BK216, BK222, HB⟩ := n_; (try clear hb); (try clear hb2); (try clear hk); (try clear hi)
                 refine hK.out _ _ ⟨(blk_cell BK215.out 0).trans rfl, (blk_cell BK215.out 1).trans rfl, (blk_cell BK215.out 2).trans rfl, HS3_⟩ (fun hHeld => ?_)
                 clear hK K
                 refine norm_ (a' := ?_) ?_ ?_
                 rotate_left
                 · show Act.put _ (some 71) _ = _
                   simp only [Act.put, List.setIfInBounds_toArray, List.set_cons_zero, List.set_cons_succ, i64_w, i32_w]
                   rfl
                 refine one_ (i := 15) (N := some 76) #[T,T,T,T,T,T,T,T,T,T,T,T,T,T,T,T,F,F] rfl rfl (one_of HT_.out (by kernel_rfl)) (by decide) (fun K hK => ?_)
                 refine goes_ Try.func23 (by kernel_rfl) rfl #[.agg #[.int .i64 a0_0, .int .i64 a0_1, .slice A0_2 l0_2.length c0_2], .int .i64 x13_3, .int .i64 a2, .int .i64 a3] (by rfl) rfl rfl (by (try simp only [List.map_toArray, List.map_cons, List.map_nil]); first | done | rfl | (simp only [List.length_drop, List.length_take]; rfl)) ?_
                 with_reducible refine (spec_Hole.calls k3 a0_0 a0_1 _ _ l0_2 x13_3 a2 a3 t241 _ ?side1 ?side2 A66.out).mono ?_
                 (case side1 => repeat (first | exact (Kd.C_below HR0_2.out HB.out) | (with_reducible refine Kd.C_alloc ?_ _) | (with_reducible refine Kd.C_drewN ?_ _) | (with_reducible refine Kd.C_drew ?_)))
                 (case side2 => exact HC0_2.out)
                 rintro e w75 ⟨rfl, hb⟩
                 have HS3_ := (hb.cell (World.block_lt_of_cell? _ _ (hHeld.2.2.2))).trans (hHeld.2.2.2)
                 refine ⟨_, rfl, ?_⟩
                 have n_ := aA (Kd.R_below (nR HO_12.out) hb) <| aA (Kd.R_below (nR HO_223002.out) hb) <| aA (nBB BK215.out hb) <| aA (nBB BK216.out hb) <| aA (nBB BK222.out hb) <| aM (below_step (nH3 HB.out GE215.out GE216.out GE222.out) hb); clear HO_12 HO_223002 BK215 BK216 BK222 HB; obtain ⟨HO_12, HO_223002, BK215, BK216, BK222, HB⟩ := n_; (try clear hb); (try clear hb2); (try clear hk); (try clear hi)
                 refine hK.out _ _ ⟨(blk_cell BK215.out 0).trans rfl, (blk_cell BK215.out 1).trans rfl, (blk_cell BK215.out 2).trans rfl, HS3_⟩ (fun hHeld => ?_)
                 clear hK K
                 refine norm_ (a' := ?_) ?_ ?_
                 rotate_left
                 · show Act.put _ (some 76) _ = _
                   simp only [Act.put, List.setIfInBounds_toArray, List.set_cons_zero, List.set_cons_succ, i64_w, i32_w]
                   rfl
                 refine pU 16 (some 77) #[T,T,T,T,T,T,T,T,T,T,T,T,T,T,T,T,T,F] rfl rfl HT_.out ?_
                 refine pU 17 (some 78) #[T,T,T,T,T,T,T,T,T,T,T,T,T,T,T,T,T,T] rfl rfl HT_.out ?_
                 refine done_ (done_of HT_.out (by kernel_rfl)) ?_
                 try go_wp2
                 go_roundg k3
                 case measure => have := HJ5.out; have := HK2.out; have := HK3.out; omega
                 case rel => exact ⟨(x13_3), (wrap64 (x14_3 + 1)), nS, nS, H', ⟨by have := HJ5.out; have := HK2.out; have := HK3.out; omega⟩, ⟨by (with_reducible repeat (first | apply Kd.R_alloc | apply Kd.R_drewN | apply Kd.R_drew)); exact HO_12.out⟩, ⟨by (with_reducible repeat (first | apply Kd.R_alloc | apply Kd.R_drewN | apply Kd.R_drew)); exact HO_223002.out⟩, ⟨by refine nE ?_; exact BK215.out⟩, ⟨by refine nE ?_; exact BK216.out⟩, ⟨by refine nE ?_; exact BK222.out⟩, ⟨nH3 HB.out GE215.out GE216.out GE222.out⟩⟩
           · rw [if_neg c59] at H
             have c59b0 : decide (x14_3 < (t230.length : Int)) = false := decide_eq_false c59
             clear c59
             by_cases c76 : x13_3 < 0
             · rw [if_pos c76] at H
               have c76b0 : decide (x13_3 < 0) = true := decide_eq_true c76
               clear c76
               simp only [Option.some.injEq, Prod.mk.injEq] at H
               obtain ⟨rfl, rfl, rfl, rfl⟩ := H
               obtain ⟨Ao77, co77, eo77⟩ := Kd.R_slice HO_12.out
               subst eo77
               have hnb78 := NB222_215.out; have hnc78 := NB215_222.out; have hnb79 := NB222_216.out; have hnc79 := NB216_222.out
               obtain ⟨hcz80_0, hcz80_1, hcz80_2, hfz80_0, hfz80_1, hfz80_2⟩ := nK3 BK222.out
               have hnb81 := NB216_215.out; have hnc81 := NB215_216.out
               obtain ⟨hcz82_0, hcz82_1, hcz82_2, hfz82_0, hfz82_1, hfz82_2⟩ := nK3 BK216.out
               go_wp2
               refine bodyPost_ret (results_ct rfl _ _ gb216 29 #[.int .i64 t217, .int .i64 t218, .slice Ao16 t219.length co16] (0, 0) _ rfl (by refine nE ?_; refine blk_put (cs := #[.int .i64 t217, .int .i64 t218, .slice none 0 0]) ?_ 2 _ rfl; refine nE ?_; refine blk_put (cs := #[.int .i64 t217, .int .i64 x217001_2, .slice none 0 0]) ?_ 1 _ rfl; refine nE ?_; refine blk_put (cs := #[.int .i64 x217000_2, .int .i64 x217001_2, .slice none 0 0]) ?_ 0 _ rfl; refine nE ?_; exact BK216.out) Try.underlying29 rfl (by kernel_rfl)) rfl ?_
               exact ⟨_, by first | rfl | (simp [errW_none, errW_some] <;> rfl) | (simp [*, errW_none, errW_some] <;> first | rfl | (simp [wrap64]; done)), by (with_reducible repeat (first | apply Kd.R_alloc | apply Kd.R_drewN | apply Kd.R_drew)); exact Kd.R_mono (Kd.R_far (p := ⟨gb216, 2, none⟩) (Kd.R_far (p := ⟨gb216, 1, none⟩) (Kd.R_far (p := ⟨gb216, 0, none⟩) (Kd.R_types HO_223002.out BK216.out (by decide)) (fun _ hk => hk.2) (.int .i64 t217)) (fun _ hk => hk.2) (.int .i64 t218)) (fun _ hk => hk.2) (.slice Ao16 t219.length co16)) (fun _ hk => trivial), nH3 HB.out GE215.out GE216.out GE222.out⟩
             · rw [if_neg c76] at H
               have c76b0 : decide (x13_3 < 0) = false := decide_eq_false c76
               clear c76
               replace H := Option.bind_eq_some_iff.mp H
               obtain ⟨⟨t233, t234, t235⟩, A830, H⟩ := H
               replace H : (some (t233, t234, t235, x13_3)) = some (r1, r2, r3, r4) := H
               have A83 := aM A830
               clear A830
               simp only [Option.some.injEq, Prod.mk.injEq] at H
               obtain ⟨rfl, rfl, rfl, rfl⟩ := H
               obtain ⟨Ao84, co84, eo84⟩ := Kd.R_slice HO_12.out
               subst eo84
               have hnb85 := NB215_216.out; have hnc85 := NB216_215.out; have hnb86 := NB215_222.out; have hnc86 := NB222_215.out
               obtain ⟨hcz87_0, hcz87_1, hcz87_2, hfz87_0, hfz87_1, hfz87_2⟩ := nK3 BK215.out
               go_wp2_with (first | ((with_reducible refine gate_callee (f := 59) rfl ?_); refine goesL_ (some 92) rfl rfl Try.func59 (by kernel_rfl) rfl #[.agg #[.int .i64 a0_0, .int .i64 a0_1, .slice A0_2 l0_2.length c0_2], .int .i64 0, .agg #[.int .i64 a1, .int .i64 x13_3, .int .i64 a2, .int .i64 a3]] rfl (by (try simp only [List.map_toArray, List.map_cons, List.map_nil]); first | done | rfl | (simp only [List.length_drop, List.length_take]; rfl)) ?_; (with_reducible refine (spec_l14Held.calls k3 a0_0 a0_1 _ _ l0_2 0 a1 x13_3 a2 a3 t233 t234 t235 _ ?side1 ?side2 A83.out).mono ?_); (case side1 => repeat (first | exact (Kd.C_below HR0_2.out HB.out) | (with_reducible refine Kd.C_alloc ?_ _) | (with_reducible refine Kd.C_drewN ?_ _) | (with_reducible refine Kd.C_drew ?_))); (case side2 => exact HC0_2.out); rintro e w88 ⟨v236, rfl, ho0, hb⟩; refine ⟨_, rfl, ?_⟩; have n_ := aA (Kd.R_below (nR HO_12.out) hb) <| aA (Kd.R_elder' (nR HO_223002.out) (Kd.R_base ho0) hb) <| aA (Kd.R_lower (Kd.R_new' ho0 (Kd.R_lt (nR HO_223002.out))) (below_size (nH3 HB.out GE215.out GE216.out GE222.out))) <| aA (nBB BK215.out hb) <| aA (nBB BK216.out hb) <| aA (nBB BK222.out hb) <| aM (below_step (nH3 HB.out GE215.out GE216.out GE222.out) hb); clear HO_12 HO_223002 BK215 BK216 BK222 HB; obtain ⟨HO_12, HO_223002, HO237, BK215, BK216, BK222, HB⟩ := n_; (try clear hb); (try clear hb2); (try clear hk); (try clear hi); (try clear ho0); have hnb89 := NB216_222.out; have hnc89 := NB222_216.out; obtain ⟨hcz90_0, hcz90_1, hcz90_2, hfz90_0, hfz90_1, hfz90_2⟩ := nK3 BK216.out; obtain ⟨Ao91, co91, eo91⟩ := Kd.R_slice HO237.out; subst eo91))
               refine bodyPost_ret (results_ct rfl _ _ gb216 29 #[.int .i64 t233, .int .i64 t234, .slice Ao91 t235.length co91] (0, 0) _ rfl (by refine nE ?_; refine blk_put (cs := #[.int .i64 t233, .int .i64 t234, .slice none 0 0]) ?_ 2 _ rfl; refine nE ?_; refine blk_put (cs := #[.int .i64 t233, .int .i64 x217001_2, .slice none 0 0]) ?_ 1 _ rfl; refine nE ?_; refine blk_put (cs := #[.int .i64 x217000_2, .int .i64 x217001_2, .slice none 0 0]) ?_ 0 _ rfl; refine nE ?_; exact BK216.out) Try.underlying29 rfl (by kernel_rfl)) rfl ?_
               exact ⟨_, by first | rfl | (simp [errW_none, errW_some] <;> rfl) | (simp [*, errW_none, errW_some] <;> first | rfl | (simp [wrap64]; done)), by (with_reducible repeat (first | apply Kd.R_alloc | apply Kd.R_drewN | apply Kd.R_drew)); exact Kd.R_mono (Kd.R_far (p := ⟨gb216, 2, none⟩) (Kd.R_far (p := ⟨gb216, 1, none⟩) (Kd.R_far (p := ⟨gb216, 0, none⟩) (Kd.R_types HO237.out BK216.out (by decide)) (fun _ hk => hk.2) (.int .i64 t233)) (fun _ hk => hk.2) (.int .i64 t234)) (fun _ hk => hk.2) (.slice Ao91 t235.length co91)) (fun _ hk => trivial), nH3 HB.out GE215.out GE216.out GE222.out⟩
end Go.Proofs.Ytklikbjlfaednaa.P

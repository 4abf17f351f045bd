/- Contracts of functions, each with its plain Lean function. -/
import Derived.Test.YtdpjoblnjjkbfaaDoorNe
import Derived.Test.YtdpjoblnjjkbfaaDoorNc
import Derived.Test.YtdpjoblnjjkbfaaDoorPx0
import Derived.Test.YtdpjoblnjjkbfaaDoorPx1
import Derived.Test.YtdpjoblnjjkbfaaDoorPx2
namespace Go.Proofs.YtdpjoblnjjkbfaaDoor.P
open Go.RowKit Go.Proofs.YtdpjoblnjjkbfaaDoorW.PrintWords Go.Proofs.YtdpjoblnjjkbfaaDoorW.PrintLast Go.Proofs.YtdpjoblnjjkbfaaDoorW.PrintMore
attribute [local go_sem] max2_int min2_int max_two min_two max_three min_three max_four min_four   -- for this text's walks alone
set_option linter.unusedVariables false
set_option linter.unusedSimpArgs false
/-! ### impl_TripOk: function 59 -/
theorem impl_TripOk.mono_l : ∀ k, (∀ y0 y1 y2, LeO (impl_TripOk.j0 k y0 y1 y2) (impl_TripOk.j0 (k + 1) y0 y1 y2)) ∧ (∀ y0 y1 y2 y3 y4, LeO (impl_TripOk.l0 k y0 y1 y2 y3 y4) (impl_TripOk.l0 (k + 1) y0 y1 y2 y3 y4)) ∧ (∀ y0 y1 y2 y3 y4 y5 y6 y7 y8 y9, LeO (impl_TripOk.j2 k y0 y1 y2 y3 y4 y5 y6 y7 y8 y9) (impl_TripOk.j2 (k + 1) y0 y1 y2 y3 y4 y5 y6 y7 y8 y9))
 | 0 => ⟨fun _ _ _ r h => by simp [impl_TripOk.j0] at h, fun _ _ _ _ _ r h => by simp [impl_TripOk.l0] at h, fun _ _ _ _ _ _ _ _ _ _ r h => by simp [impl_TripOk.j2] at h⟩
 | k + 1 => by
  obtain ⟨ih0, ih1, ih2⟩ := impl_TripOk.mono_l k
  refine ⟨?_, ?_, ?_⟩
  all_goals intros
  all_goals first | unfold impl_TripOk.j0 | unfold impl_TripOk.l0 | unfold impl_TripOk.j2
  all_goals
   repeat' first
   | (with_reducible exact ih0 _ _ _)
   | (with_reducible exact ih1 _ _ _ _ _)
   | (with_reducible exact ih2 _ _ _ _ _ _ _ _ _ _)
   | (with_reducible exact impl_nameOk.mono _ _)
   | (with_reducible exact LeO.refl _)
   | (with_reducible exact LeO.none _)
   | (with_reducible refine LeO.ite ?_ ?_)
   | (with_reducible refine LeO.bind ?_ (fun _ => ?_))
   | exact ih0 _ _ _
   | exact ih1 _ _ _ _ _
   | exact ih2 _ _ _ _ _ _ _ _ _ _
   | exact impl_nameOk.mono _ _
   | exact LeO.none _
   | refine LeO.ite ?_ ?_
   | refine LeO.bind ?_ (fun _ => ?_)
theorem impl_TripOk.mono : ∀ a0 a1 k, LeO (impl_TripOk.f k a0 a1) (impl_TripOk.f (k + 1) a0 a1) := by
 intro a0 a1 k
 obtain ⟨ih0, ih1, ih2⟩ := impl_TripOk.mono_l k
 unfold impl_TripOk.f
 repeat' first
  | (with_reducible exact ih0 _ _ _)
  | (with_reducible exact ih1 _ _ _ _ _)
  | (with_reducible exact ih2 _ _ _ _ _ _ _ _ _ _)
  | (with_reducible exact impl_nameOk.mono _ _)
  | (with_reducible exact LeO.refl _)
  | (with_reducible exact LeO.none _)
  | (with_reducible refine LeO.ite ?_ ?_)
  | (with_reducible refine LeO.bind ?_ (fun _ => ?_))
  | exact ih0 _ _ _
  | exact ih1 _ _ _ _ _
  | exact ih2 _ _ _ _ _ _ _ _ _ _
  | exact impl_nameOk.mono _ _
  | exact LeO.none _
  | refine LeO.ite ?_ ?_
  | refine LeO.bind ?_ (fun _ => ?_)
set_option maxHeartbeats 8000000 in
set_option maxRecDepth 100000 in
theorem impl_TripOk.calls (k : Nat) (a0_0 : ByteArray) (A0_1 : Option Addr) (c0_1 : Nat) (l0_1 : List (S43)) (r : Bool) (w : World) (hr0_1 : Kd.C k43 w A0_1 l0_1.length l0_1) (hc0_1 : l0_1.length ≤ c0_1) (h : impl_TripOk.f k a0_0 l0_1 = some r) :
 Calls Tryd.prog 59 #[.agg #[.string a0_0, .slice A0_1 l0_1.length c0_1]] w fun e w' => e = .returned (.bool r) ∧ Below w.heap.size w w' := by
 have hu46 := Tryd.underlying46; have hu43 := Tryd.underlying43
 have HR0_1 := aM hr0_1
 have HC0_1 := aM hc0_1
 clear hr0_1 hc0_1
 have HB := aM (Below.refl w.heap.size w)
 have H : ((impl_nameOk.f k a0_0).bind fun t112 => (if t112 = true then ((impl_between.f (l0_1.length : Int) 2 12).bind fun t113 => (impl_TripOk.j0 k (!t113) a0_0 l0_1)) else (impl_TripOk.j0 k true a0_0 l0_1))) = some r := h
 clear h
 have HC2 := aM H
 clear H
 go_enter Tryd.func59, Tryd.ntmps59
 go_upto_region 1 with (first | ((with_reducible refine gate_dst (N := 1) rfl ?_); (try (refine gate_guard (by rfl) ?_; dsimp only)); refine box_event ?hg (N := 1) ?hd (cs := #[.string a0_0, .slice A0_1 l0_1.length c0_1]) (t := 46) ?hr ?_; (case hd => rfl); (case hg => rfl); (case hr => first | (go_simp; done) | (go_simp; rfl)); intro gb111 hg w3 hbox hb; have n_ := aA (below_step (nH HB.out) hb) <| aA (hbox) <| aA (bS hg (nH HB.out)) <| aM (bS hg (nH HB.out)); clear HB; obtain ⟨HB, BK111, GW111, GE111⟩ := n_; clear hb hbox hg))
 repeat (go_quiet (first | ((with_reducible refine gate_dst (N := 1) rfl ?_); (try (refine gate_guard (by rfl) ?_; dsimp only)); refine box_event ?hg (N := 1) ?hd (cs := #[.string a0_0, .slice A0_1 l0_1.length c0_1]) (t := 46) ?hr ?_; (case hd => rfl); (case hg => rfl); (case hr => first | (go_simp; done) | (go_simp; rfl)); intro gb111 hg w3 hbox hb; have n_ := aA (below_step (nH HB.out) hb) <| aA (hbox) <| aA (bS hg (nH HB.out)) <| aM (bS hg (nH HB.out)); clear HB; obtain ⟨HB, BK111, GW111, GE111⟩ := n_; clear hb hbox hg)); go_upto_region 1 with (first | ((with_reducible refine gate_dst (N := 1) rfl ?_); (try (refine gate_guard (by rfl) ?_; dsimp only)); refine box_event ?hg (N := 1) ?hd (cs := #[.string a0_0, .slice A0_1 l0_1.length c0_1]) (t := 46) ?hr ?_; (case hd => rfl); (case hg => rfl); (case hr => first | (go_simp; done) | (go_simp; rfl)); intro gb111 hg w3 hbox hb; have n_ := aA (below_step (nH HB.out) hb) <| aA (hbox) <| aA (bS hg (nH HB.out)) <| aM (bS hg (nH HB.out)); clear HB; obtain ⟨HB, BK111, GW111, GE111⟩ := n_; clear hb hbox hg)))
 (try simp only [Act.put, List.setIfInBounds_toArray, List.set_cons_zero, List.set_cons_succ])
 go_cut [15] (fun v15 wc => ∃ (kq : Nat) (x15_1 : Bool), v15 = .bool x15_1 ∧ Aside0 (impl_TripOk.j0 kq x15_1 a0_0 l0_1 = some r) ∧ Aside0 (kq ≤ k) ∧ Aside0 (wc.heap[gb111]? = some (.cells #[.string a0_0, (.slice A0_1 l0_1.length c0_1)] 46 (0, 0))) ∧ Aside0 (Below w.heap.size w wc))
 case first =>
  have H := HC2.out; clear HC2
  obtain ⟨t112, A40, H⟩ := Option.bind_eq_some_iff.mp H
  have A4 := aM A40
  clear A40
  by_cases c5 : t112 = true
  · subst c5
    rw [if_pos rfl] at H
    obtain ⟨t113, A60, H⟩ := Option.bind_eq_some_iff.mp H
    have A6 := aM A60
    clear A60
    have H' := aM H
    clear H
    obtain ⟨hcz7_0, hcz7_1, hfz7_0, hfz7_1⟩ := nK2 BK111.out
    go_wp2_with (first | (go_at_call 68; (with_reducible refine (impl_nameOk.calls k a0_0 true _ A4.out).mono ?_); rintro e w' ⟨rfl, ⟨nd, rfl⟩⟩; (try first | exact ⟨rfl, _, World.drewN_drewN _ _ _⟩ | exact ⟨rfl, _, Eq.trans (World.drewN_drewN _ _ _) (congrArg (World.drewN _) (Nat.add_assoc _ _ _))⟩)) | (go_at_call 44; (with_reducible refine (impl_between.calls (l0_1.length : Int) 2 12 t113 _ A6.out).mono ?_); rintro e w' ⟨rfl, ⟨nd, rfl⟩⟩; (try first | exact ⟨rfl, _, World.drewN_drewN _ _ _⟩ | exact ⟨rfl, _, Eq.trans (World.drewN_drewN _ _ _) (congrArg (World.drewN _) (Nat.add_assoc _ _ _))⟩)))
    repeat (go_quiet (first | (go_at_call 68; (with_reducible refine (impl_nameOk.calls k a0_0 true _ A4.out).mono ?_); rintro e w' ⟨rfl, ⟨nd, rfl⟩⟩; (try first | exact ⟨rfl, _, World.drewN_drewN _ _ _⟩ | exact ⟨rfl, _, Eq.trans (World.drewN_drewN _ _ _) (congrArg (World.drewN _) (Nat.add_assoc _ _ _))⟩)) | (go_at_call 44; (with_reducible refine (impl_between.calls (l0_1.length : Int) 2 12 t113 _ A6.out).mono ?_); rintro e w' ⟨rfl, ⟨nd, rfl⟩⟩; (try first | exact ⟨rfl, _, World.drewN_drewN _ _ _⟩ | exact ⟨rfl, _, Eq.trans (World.drewN_drewN _ _ _) (congrArg (World.drewN _) (Nat.add_assoc _ _ _))⟩))); try go_wp2_with (first | (go_at_call 68; (with_reducible refine (impl_nameOk.calls k a0_0 true _ A4.out).mono ?_); rintro e w' ⟨rfl, ⟨nd, rfl⟩⟩; (try first | exact ⟨rfl, _, World.drewN_drewN _ _ _⟩ | exact ⟨rfl, _, Eq.trans (World.drewN_drewN _ _ _) (congrArg (World.drewN _) (Nat.add_assoc _ _ _))⟩)) | (go_at_call 44; (with_reducible refine (impl_between.calls (l0_1.length : Int) 2 12 t113 _ A6.out).mono ?_); rintro e w' ⟨rfl, ⟨nd, rfl⟩⟩; (try first | exact ⟨rfl, _, World.drewN_drewN _ _ _⟩ | exact ⟨rfl, _, Eq.trans (World.drewN_drewN _ _ _) (congrArg (World.drewN _) (Nat.add_assoc _ _ _))⟩))))
    go_meet
    case rel => exact ⟨_, (!t113), nS, H', ⟨by first | omega | exact Nat.le_refl _⟩, ⟨by exact nB BK111.out⟩, ⟨nH1 HB.out GE111.out⟩⟩
  · replace c5 := Bool.eq_false_iff.mpr c5
    subst c5
    rw [if_neg nN] at H
    have H' := aM H
    clear H
    obtain ⟨hcz8_0, hcz8_1, hfz8_0, hfz8_1⟩ := nK2 BK111.out
    go_wp2_with (first | (go_at_call 68; (with_reducible refine (impl_nameOk.calls k a0_0 false _ A4.out).mono ?_); rintro e w' ⟨rfl, ⟨nd, rfl⟩⟩; (try first | exact ⟨rfl, _, World.drewN_drewN _ _ _⟩ | exact ⟨rfl, _, Eq.trans (World.drewN_drewN _ _ _) (congrArg (World.drewN _) (Nat.add_assoc _ _ _))⟩)))
    repeat (go_quiet (first | (go_at_call 68; (with_reducible refine (impl_nameOk.calls k a0_0 false _ A4.out).mono ?_); rintro e w' ⟨rfl, ⟨nd, rfl⟩⟩; (try first | exact ⟨rfl, _, World.drewN_drewN _ _ _⟩ | exact ⟨rfl, _, Eq.trans (World.drewN_drewN _ _ _) (congrArg (World.drewN _) (Nat.add_assoc _ _ _))⟩))); try go_wp2_with (first | (go_at_call 68; (with_reducible refine (impl_nameOk.calls k a0_0 false _ A4.out).mono ?_); rintro e w' ⟨rfl, ⟨nd, rfl⟩⟩; (try first | exact ⟨rfl, _, World.drewN_drewN _ _ _⟩ | exact ⟨rfl, _, Eq.trans (World.drewN_drewN _ _ _) (congrArg (World.drewN _) (Nat.add_assoc _ _ _))⟩))))
    go_meet
    case rel => exact ⟨_, (true), nS, H', ⟨by first | omega | exact Nat.le_refl _⟩, ⟨by exact nB BK111.out⟩, ⟨nH1 HB.out GE111.out⟩⟩
 case rest =>
  clear HC2; try clear p2; try clear c5; try clear hcz7_0; try clear hcz7_1; try clear hcz8_0; try clear hcz8_1; try clear hfz7_0; try clear hfz7_1; try clear hfz8_0; try clear hfz8_1
  obtain ⟨kq, x15_1, rfl, HA, HJ1, BK111, HB⟩ := hcut
  cases kq with
  | zero => exact absurd HA.out (by simp [impl_TripOk.j0])
  | succ kj1 =>
   have H := HA.out; clear HA
   simp only [impl_TripOk.j0] at H
   by_cases c9 : x15_1 = true
   · subst c9
     rw [if_pos rfl] at H; obtain rfl := Option.some.inj H; go_wp2
     repeat (go_quiet (fail); try go_wp2)
     go_ret
     exact ⟨by first | rfl | (simp [errW_none, errW_some] <;> rfl) | (simp [*, errW_none, errW_some] <;> first | rfl | (simp [wrap64]; done)), nH1 HB.out GE111.out⟩
   · replace c9 := Bool.eq_false_iff.mpr c9
     subst c9
     rw [if_neg nN] at H
     have H' := aM H
     clear H
     obtain ⟨hcz10_0, hcz10_1, hfz10_0, hfz10_1⟩ := nK2 BK111.out
     go_wp2
     repeat (go_quiet (fail); try go_wp2)
     go_loopg [19] kj1 (fun kq v19 w' => ∃ (x19_2 : Int), v19 = .int .i64 x19_2 ∧ Aside0 (impl_TripOk.l0 kq l0_1 (l0_1.length : Int) x19_2 a0_0 l0_1 = some r) ∧ Aside0 (kq ≤ kj1) ∧ Aside0 (w'.heap[gb111]? = some (.cells #[.string a0_0, (.slice A0_1 l0_1.length c0_1)] 46 (0, 0))) ∧ Aside0 (Below w.heap.size w w'))
     case atStart => exact ⟨(0), nS, H', ⟨Nat.le_refl _⟩, ⟨by exact nB BK111.out⟩, ⟨nH1 HB.out GE111.out⟩⟩
     case round =>
      clear H'
      try clear p2; try clear c5; try clear p6; try clear c9; try clear hcz10_0; try clear hcz10_1; try clear hcz7_0; try clear hcz7_1; try clear hcz8_0; try clear hcz8_1; try clear hfz10_0; try clear hfz10_1; try clear hfz7_0; try clear hfz7_1; try clear hfz8_0; try clear hfz8_1; try clear p2
      obtain ⟨x19_2, rfl, HA, HK2, BK111, HB⟩ := hrel
      cases gk with
      | zero => exact absurd HA.out (by simp [impl_TripOk.l0])
      | succ k2 =>
       have H := HA.out; clear HA
       simp only [impl_TripOk.l0] at H
       by_cases c11 : x19_2 < (l0_1.length : Int)
       · rw [if_pos c11] at H
         have c11b0 : decide (x19_2 < (l0_1.length : Int)) = true := decide_eq_true c11
         clear c11
         by_cases c12 : 0 ≤ x19_2
         rotate_left
         · (rw [if_neg c12] at H; exact absurd H (by simp))
         rw [if_pos c12] at H
         have c12b0 : decide (0 ≤ x19_2) = true := decide_eq_true c12
         clear c12
         by_cases c13 : x19_2 < (l0_1.length : Int)
         rotate_left
         · (rw [if_neg c13] at H; exact absurd H (by simp))
         rw [if_pos c13] at H
         have c13b0 : decide (x19_2 < (l0_1.length : Int)) = true := decide_eq_true c13
         clear c13
         have HC14 := aM H
         clear H
         have p114 : 0 ≤ (x19_2 : Int) := of_decide_eq_true nQ
         have q114 : x19_2 < (l0_1.length : Int) := of_decide_eq_true nQ
         obtain ⟨ad114, e114, hx114_0, hx114_1, hx114_2⟩ := at_T43 HR0_1.out x19_2 p114 q114
         cases e114
         replace hx114_0 := (HB.out.cell (World.block_lt_of_cell? w _ hx114_0)).trans hx114_0
         replace hx114_1 := (HB.out.cell (World.block_lt_of_cell? w _ hx114_1)).trans hx114_1
         replace hx114_2 := (HB.out.cell (World.block_lt_of_cell? w _ hx114_2)).trans hx114_2
         replace p114 := eq_true p114; replace q114 := eq_true q114
         go_upto_region 6 with (first | ((with_reducible refine gate_dst (N := 4) rfl ?_); (try (refine gate_guard (by rfl) ?_; dsimp only)); refine box_event ?hg (N := 4) ?hd (cs := #[.int .i64 0, .int .i64 0, .int .i64 0]) (t := 43) ?hr ?_; (case hd => rfl); (case hg => rfl); (case hr => first | (go_simp; done) | (go_simp; rfl)); intro gb115 hg w15 hbox hb; have n_ := aA (nBB BK111.out hb) <| aA (below_step (nH1 HB.out GE111.out) hb) <| aA (hbox) <| aA (bS hg (nH1 HB.out GE111.out)) <| aA (bS hg (nH1 HB.out GE111.out)) <| aA (nBL BK111.out hg) <| aM (by rw [hg]; exact Nat.ne_of_gt (blk_lt (g := gb111) (o := .cells #[.string a0_0, .slice (some ad114) l0_1.length c0_1] 46 (0, 0)) (nB BK111.out)) : gb115 ≠ gb111); clear BK111 HB; obtain ⟨BK111, HB, BK115, GW115, GE115, NB111_115, NB115_111⟩ := n_; clear hb hbox hg; have hnb16 := NB115_111.out; have hnc16 := NB111_115.out; obtain ⟨hcz17_0, hcz17_1, hcz17_2, hfz17_0, hfz17_1, hfz17_2⟩ := nK3 BK115.out))
         repeat (go_quiet (first | ((with_reducible refine gate_dst (N := 4) rfl ?_); (try (refine gate_guard (by rfl) ?_; dsimp only)); refine box_event ?hg (N := 4) ?hd (cs := #[.int .i64 0, .int .i64 0, .int .i64 0]) (t := 43) ?hr ?_; (case hd => rfl); (case hg => rfl); (case hr => first | (go_simp; done) | (go_simp; rfl)); intro gb115 hg w15 hbox hb; have n_ := aA (nBB BK111.out hb) <| aA (below_step (nH1 HB.out GE111.out) hb) <| aA (hbox) <| aA (bS hg (nH1 HB.out GE111.out)) <| aA (bS hg (nH1 HB.out GE111.out)) <| aA (nBL BK111.out hg) <| aM (by rw [hg]; exact Nat.ne_of_gt (blk_lt (g := gb111) (o := .cells #[.string a0_0, .slice (some ad114) l0_1.length c0_1] 46 (0, 0)) (nB BK111.out)) : gb115 ≠ gb111); clear BK111 HB; obtain ⟨BK111, HB, BK115, GW115, GE115, NB111_115, NB115_111⟩ := n_; clear hb hbox hg; have hnb16 := NB115_111.out; have hnc16 := NB111_115.out; obtain ⟨hcz17_0, hcz17_1, hcz17_2, hfz17_0, hfz17_1, hfz17_2⟩ := nK3 BK115.out)); go_upto_region 6 with (first | ((with_reducible refine gate_dst (N := 4) rfl ?_); (try (refine gate_guard (by rfl) ?_; dsimp only)); refine box_event ?hg (N := 4) ?hd (cs := #[.int .i64 0, .int .i64 0, .int .i64 0]) (t := 43) ?hr ?_; (case hd => rfl); (case hg => rfl); (case hr => first | (go_simp; done) | (go_simp; rfl)); intro gb115 hg w15 hbox hb; have n_ := aA (nBB BK111.out hb) <| aA (below_step (nH1 HB.out GE111.out) hb) <| aA (hbox) <| aA (bS hg (nH1 HB.out GE111.out)) <| aA (bS hg (nH1 HB.out GE111.out)) <| aA (nBL BK111.out hg) <| aM (by rw [hg]; exact Nat.ne_of_gt (blk_lt (g := gb111) (o := .cells #[.string a0_0, .slice (some ad114) l0_1.length c0_1] 46 (0, 0)) (nB BK111.out)) : gb115 ≠ gb111); clear BK111 HB; obtain ⟨BK111, HB, BK115, GW115, GE115, NB111_115, NB115_111⟩ := n_; clear hb hbox hg; have hnb16 := NB115_111.out; have hnc16 := NB111_115.out; obtain ⟨hcz17_0, hcz17_1, hcz17_2, hfz17_0, hfz17_1, hfz17_2⟩ := nK3 BK115.out)))
         (try simp only [Act.put, List.setIfInBounds_toArray, List.set_cons_zero, List.set_cons_succ])
         go_cut [46] (fun v46 wc => ∃ (kq : Nat) (x46_13 : Bool), v46 = .bool x46_13 ∧ Aside0 (impl_TripOk.j2 kq x19_2 l0_1 (l0_1.length : Int) x19_2 x46_13 a0_0 l0_1 ((rd_T43 l0_1 x19_2).f0) ((rd_T43 l0_1 x19_2).f1) ((rd_T43 l0_1 x19_2).f2) = some r) ∧ Aside0 (kq ≤ k2) ∧ Aside0 (wc.heap[gb111]? = some (.cells #[.string a0_0, (.slice (some ad114) l0_1.length c0_1)] 46 (0, 0))) ∧ Aside0 (wc.heap[gb115]? = some (.cells #[.int .i64 ((rd_T43 l0_1 x19_2).f0), .int .i64 ((rd_T43 l0_1 x19_2).f1), .int .i64 ((rd_T43 l0_1 x19_2).f2)] 43 (0, 0))) ∧ Aside0 (Below w.heap.size w wc))
         case first =>
          have H := HC14.out; clear HC14
          obtain ⟨t116, A180, H⟩ := Option.bind_eq_some_iff.mp H
          have A18 := aM A180
          clear A180
          by_cases c19 : t116 = true
          · subst c19
            rw [if_pos rfl] at H
            obtain ⟨t117, A200, H⟩ := Option.bind_eq_some_iff.mp H
            have A20 := aM A200
            clear A200
            by_cases c21 : t117 = true
            · subst c21
              rw [if_pos rfl] at H
              obtain ⟨t118, A220, H⟩ := Option.bind_eq_some_iff.mp H
              have A22 := aM A220
              clear A220
              by_cases c23 : t118 = true
              · subst c23
                rw [if_pos rfl] at H
                have H' := aM H
                clear H; have hnb24 := NB115_111.out; have hnc24 := NB111_115.out
                obtain ⟨hcz25_0, hcz25_1, hcz25_2, hfz25_0, hfz25_1, hfz25_2⟩ := nK3 BK115.out
                go_wp2_with (first | (go_at_call 44; (with_reducible refine (impl_between.calls ((rd_T43 l0_1 x19_2).f0) 0 29 true _ A18.out).mono ?_); rintro e w' ⟨rfl, ⟨nd, rfl⟩⟩; (try first | exact ⟨rfl, _, World.drewN_drewN _ _ _⟩ | exact ⟨rfl, _, Eq.trans (World.drewN_drewN _ _ _) (congrArg (World.drewN _) (Nat.add_assoc _ _ _))⟩)) | (go_at_call 51; (with_reducible refine (impl_isMinute.calls ((rd_T43 l0_1 x19_2).f1) true _ A20.out).mono ?_); rintro e w' ⟨rfl, ⟨nd, rfl⟩⟩; (try first | exact ⟨rfl, _, World.drewN_drewN _ _ _⟩ | exact ⟨rfl, _, Eq.trans (World.drewN_drewN _ _ _) (congrArg (World.drewN _) (Nat.add_assoc _ _ _))⟩)) | (go_at_call 51; (with_reducible refine (impl_isMinute.calls ((rd_T43 l0_1 x19_2).f2) true _ A22.out).mono ?_); rintro e w' ⟨rfl, ⟨nd, rfl⟩⟩; (try first | exact ⟨rfl, _, World.drewN_drewN _ _ _⟩ | exact ⟨rfl, _, Eq.trans (World.drewN_drewN _ _ _) (congrArg (World.drewN _) (Nat.add_assoc _ _ _))⟩)))
                repeat (go_quiet (first | (go_at_call 44; (with_reducible refine (impl_between.calls ((rd_T43 l0_1 x19_2).f0) 0 29 true _ A18.out).mono ?_); rintro e w' ⟨rfl, ⟨nd, rfl⟩⟩; (try first | exact ⟨rfl, _, World.drewN_drewN _ _ _⟩ | exact ⟨rfl, _, Eq.trans (World.drewN_drewN _ _ _) (congrArg (World.drewN _) (Nat.add_assoc _ _ _))⟩)) | (go_at_call 51; (with_reducible refine (impl_isMinute.calls ((rd_T43 l0_1 x19_2).f1) true _ A20.out).mono ?_); rintro e w' ⟨rfl, ⟨nd, rfl⟩⟩; (try first | exact ⟨rfl, _, World.drewN_drewN _ _ _⟩ | exact ⟨rfl, _, Eq.trans (World.drewN_drewN _ _ _) (congrArg (World.drewN _) (Nat.add_assoc _ _ _))⟩)) | (go_at_call 51; (with_reducible refine (impl_isMinute.calls ((rd_T43 l0_1 x19_2).f2) true _ A22.out).mono ?_); rintro e w' ⟨rfl, ⟨nd, rfl⟩⟩; (try first | exact ⟨rfl, _, World.drewN_drewN _ _ _⟩ | exact ⟨rfl, _, Eq.trans (World.drewN_drewN _ _ _) (congrArg (World.drewN _) (Nat.add_assoc _ _ _))⟩))); try go_wp2_with (first | (go_at_call 44; (with_reducible refine (impl_between.calls ((rd_T43 l0_1 x19_2).f0) 0 29 true _ A18.out).mono ?_); rintro e w' ⟨rfl, ⟨nd, rfl⟩⟩; (try first | exact ⟨rfl, _, World.drewN_drewN _ _ _⟩ | exact ⟨rfl, _, Eq.trans (World.drewN_drewN _ _ _) (congrArg (World.drewN _) (Nat.add_assoc _ _ _))⟩)) | (go_at_call 51; (with_reducible refine (impl_isMinute.calls ((rd_T43 l0_1 x19_2).f1) true _ A20.out).mono ?_); rintro e w' ⟨rfl, ⟨nd, rfl⟩⟩; (try first | exact ⟨rfl, _, World.drewN_drewN _ _ _⟩ | exact ⟨rfl, _, Eq.trans (World.drewN_drewN _ _ _) (congrArg (World.drewN _) (Nat.add_assoc _ _ _))⟩)) | (go_at_call 51; (with_reducible refine (impl_isMinute.calls ((rd_T43 l0_1 x19_2).f2) true _ A22.out).mono ?_); rintro e w' ⟨rfl, ⟨nd, rfl⟩⟩; (try first | exact ⟨rfl, _, World.drewN_drewN _ _ _⟩ | exact ⟨rfl, _, Eq.trans (World.drewN_drewN _ _ _) (congrArg (World.drewN _) (Nat.add_assoc _ _ _))⟩))))
                go_meet
                case rel => exact ⟨_, (decide (((rd_T43 l0_1 x19_2).f1) > ((rd_T43 l0_1 x19_2).f2))), nS, H', ⟨by have := HJ1.out; have := HK2.out; first | omega | exact Nat.le_refl _⟩, ⟨by refine nE ?_; refine blk_far ?_ NB111_115.out _; refine nE ?_; refine blk_far ?_ NB111_115.out _; refine nE ?_; refine blk_far ?_ NB111_115.out _; exact nB BK111.out⟩, ⟨by refine nE ?_; refine blk_put (cs := #[.int .i64 ((rd_T43 l0_1 x19_2).f0), .int .i64 ((rd_T43 l0_1 x19_2).f1), .int .i64 0]) ?_ 2 _ rfl; refine nE ?_; refine blk_put (cs := #[.int .i64 ((rd_T43 l0_1 x19_2).f0), .int .i64 0, .int .i64 0]) ?_ 1 _ rfl; refine nE ?_; refine blk_put (cs := #[.int .i64 0, .int .i64 0, .int .i64 0]) ?_ 0 _ rfl; exact nB BK115.out⟩, ⟨nH2 HB.out GE111.out GE115.out⟩⟩
              · replace c23 := Bool.eq_false_iff.mpr c23
                subst c23
                rw [if_neg nN] at H
                have H' := aM H
                clear H; have hnb26 := NB115_111.out; have hnc26 := NB111_115.out
                obtain ⟨hcz27_0, hcz27_1, hcz27_2, hfz27_0, hfz27_1, hfz27_2⟩ := nK3 BK115.out
                go_wp2_with (first | (go_at_call 44; (with_reducible refine (impl_between.calls ((rd_T43 l0_1 x19_2).f0) 0 29 true _ A18.out).mono ?_); rintro e w' ⟨rfl, ⟨nd, rfl⟩⟩; (try first | exact ⟨rfl, _, World.drewN_drewN _ _ _⟩ | exact ⟨rfl, _, Eq.trans (World.drewN_drewN _ _ _) (congrArg (World.drewN _) (Nat.add_assoc _ _ _))⟩)) | (go_at_call 51; (with_reducible refine (impl_isMinute.calls ((rd_T43 l0_1 x19_2).f1) true _ A20.out).mono ?_); rintro e w' ⟨rfl, ⟨nd, rfl⟩⟩; (try first | exact ⟨rfl, _, World.drewN_drewN _ _ _⟩ | exact ⟨rfl, _, Eq.trans (World.drewN_drewN _ _ _) (congrArg (World.drewN _) (Nat.add_assoc _ _ _))⟩)) | (go_at_call 51; (with_reducible refine (impl_isMinute.calls ((rd_T43 l0_1 x19_2).f2) false _ A22.out).mono ?_); rintro e w' ⟨rfl, ⟨nd, rfl⟩⟩; (try first | exact ⟨rfl, _, World.drewN_drewN _ _ _⟩ | exact ⟨rfl, _, Eq.trans (World.drewN_drewN _ _ _) (congrArg (World.drewN _) (Nat.add_assoc _ _ _))⟩)))
                repeat (go_quiet (first | (go_at_call 44; (with_reducible refine (impl_between.calls ((rd_T43 l0_1 x19_2).f0) 0 29 true _ A18.out).mono ?_); rintro e w' ⟨rfl, ⟨nd, rfl⟩⟩; (try first | exact ⟨rfl, _, World.drewN_drewN _ _ _⟩ | exact ⟨rfl, _, Eq.trans (World.drewN_drewN _ _ _) (congrArg (World.drewN _) (Nat.add_assoc _ _ _))⟩)) | (go_at_call 51; (with_reducible refine (impl_isMinute.calls ((rd_T43 l0_1 x19_2).f1) true _ A20.out).mono ?_); rintro e w' ⟨rfl, ⟨nd, rfl⟩⟩; (try first | exact ⟨rfl, _, World.drewN_drewN _ _ _⟩ | exact ⟨rfl, _, Eq.trans (World.drewN_drewN _ _ _) (congrArg (World.drewN _) (Nat.add_assoc _ _ _))⟩)) | (go_at_call 51; (with_reducible refine (impl_isMinute.calls ((rd_T43 l0_1 x19_2).f2) false _ A22.out).mono ?_); rintro e w' ⟨rfl, ⟨nd, rfl⟩⟩; (try first | exact ⟨rfl, _, World.drewN_drewN _ _ _⟩ | exact ⟨rfl, _, Eq.trans (World.drewN_drewN _ _ _) (congrArg (World.drewN _) (Nat.add_assoc _ _ _))⟩))); try go_wp2_with (first | (go_at_call 44; (with_reducible refine (impl_between.calls ((rd_T43 l0_1 x19_2).f0) 0 29 true _ A18.out).mono ?_); rintro e w' ⟨rfl, ⟨nd, rfl⟩⟩; (try first | exact ⟨rfl, _, World.drewN_drewN _ _ _⟩ | exact ⟨rfl, _, Eq.trans (World.drewN_drewN _ _ _) (congrArg (World.drewN _) (Nat.add_assoc _ _ _))⟩)) | (go_at_call 51; (with_reducible refine (impl_isMinute.calls ((rd_T43 l0_1 x19_2).f1) true _ A20.out).mono ?_); rintro e w' ⟨rfl, ⟨nd, rfl⟩⟩; (try first | exact ⟨rfl, _, World.drewN_drewN _ _ _⟩ | exact ⟨rfl, _, Eq.trans (World.drewN_drewN _ _ _) (congrArg (World.drewN _) (Nat.add_assoc _ _ _))⟩)) | (go_at_call 51; (with_reducible refine (impl_isMinute.calls ((rd_T43 l0_1 x19_2).f2) false _ A22.out).mono ?_); rintro e w' ⟨rfl, ⟨nd, rfl⟩⟩; (try first | exact ⟨rfl, _, World.drewN_drewN _ _ _⟩ | exact ⟨rfl, _, Eq.trans (World.drewN_drewN _ _ _) (congrArg (World.drewN _) (Nat.add_assoc _ _ _))⟩))))
                go_meet
                case rel => exact ⟨_, (true), nS, H', ⟨by have := HJ1.out; have := HK2.out; first | omega | exact Nat.le_refl _⟩, ⟨by refine nE ?_; refine blk_far ?_ NB111_115.out _; refine nE ?_; refine blk_far ?_ NB111_115.out _; refine nE ?_; refine blk_far ?_ NB111_115.out _; exact nB BK111.out⟩, ⟨by refine nE ?_; refine blk_put (cs := #[.int .i64 ((rd_T43 l0_1 x19_2).f0), .int .i64 ((rd_T43 l0_1 x19_2).f1), .int .i64 0]) ?_ 2 _ rfl; refine nE ?_; refine blk_put (cs := #[.int .i64 ((rd_T43 l0_1 x19_2).f0), .int .i64 0, .int .i64 0]) ?_ 1 _ rfl; refine nE ?_; refine blk_put (cs := #[.int .i64 0, .int .i64 0, .int .i64 0]) ?_ 0 _ rfl; exact nB BK115.out⟩, ⟨nH2 HB.out GE111.out GE115.out⟩⟩
            · replace c21 := Bool.eq_false_iff.mpr c21
              subst c21
              rw [if_neg nN] at H
              have H' := aM H
              clear H; have hnb28 := NB115_111.out; have hnc28 := NB111_115.out
              obtain ⟨hcz29_0, hcz29_1, hcz29_2, hfz29_0, hfz29_1, hfz29_2⟩ := nK3 BK115.out
              go_wp2_with (first | (go_at_call 44; (with_reducible refine (impl_between.calls ((rd_T43 l0_1 x19_2).f0) 0 29 true _ A18.out).mono ?_); rintro e w' ⟨rfl, ⟨nd, rfl⟩⟩; (try first | exact ⟨rfl, _, World.drewN_drewN _ _ _⟩ | exact ⟨rfl, _, Eq.trans (World.drewN_drewN _ _ _) (congrArg (World.drewN _) (Nat.add_assoc _ _ _))⟩)) | (go_at_call 51; (with_reducible refine (impl_isMinute.calls ((rd_T43 l0_1 x19_2).f1) false _ A20.out).mono ?_); rintro e w' ⟨rfl, ⟨nd, rfl⟩⟩; (try first | exact ⟨rfl, _, World.drewN_drewN _ _ _⟩ | exact ⟨rfl, _, Eq.trans (World.drewN_drewN _ _ _) (congrArg (World.drewN _) (Nat.add_assoc _ _ _))⟩)))
              repeat (go_quiet (first | (go_at_call 44; (with_reducible refine (impl_between.calls ((rd_T43 l0_1 x19_2).f0) 0 29 true _ A18.out).mono ?_); rintro e w' ⟨rfl, ⟨nd, rfl⟩⟩; (try first | exact ⟨rfl, _, World.drewN_drewN _ _ _⟩ | exact ⟨rfl, _, Eq.trans (World.drewN_drewN _ _ _) (congrArg (World.drewN _) (Nat.add_assoc _ _ _))⟩)) | (go_at_call 51; (with_reducible refine (impl_isMinute.calls ((rd_T43 l0_1 x19_2).f1) false _ A20.out).mono ?_); rintro e w' ⟨rfl, ⟨nd, rfl⟩⟩; (try first | exact ⟨rfl, _, World.drewN_drewN _ _ _⟩ | exact ⟨rfl, _, Eq.trans (World.drewN_drewN _ _ _) (congrArg (World.drewN _) (Nat.add_assoc _ _ _))⟩))); try go_wp2_with (first | (go_at_call 44; (with_reducible refine (impl_between.calls ((rd_T43 l0_1 x19_2).f0) 0 29 true _ A18.out).mono ?_); rintro e w' ⟨rfl, ⟨nd, rfl⟩⟩; (try first | exact ⟨rfl, _, World.drewN_drewN _ _ _⟩ | exact ⟨rfl, _, Eq.trans (World.drewN_drewN _ _ _) (congrArg (World.drewN _) (Nat.add_assoc _ _ _))⟩)) | (go_at_call 51; (with_reducible refine (impl_isMinute.calls ((rd_T43 l0_1 x19_2).f1) false _ A20.out).mono ?_); rintro e w' ⟨rfl, ⟨nd, rfl⟩⟩; (try first | exact ⟨rfl, _, World.drewN_drewN _ _ _⟩ | exact ⟨rfl, _, Eq.trans (World.drewN_drewN _ _ _) (congrArg (World.drewN _) (Nat.add_assoc _ _ _))⟩))))
              go_meet
              case rel => exact ⟨_, (true), nS, H', ⟨by have := HJ1.out; have := HK2.out; first | omega | exact Nat.le_refl _⟩, ⟨by refine nE ?_; refine blk_far ?_ NB111_115.out _; refine nE ?_; refine blk_far ?_ NB111_115.out _; refine nE ?_; refine blk_far ?_ NB111_115.out _; exact nB BK111.out⟩, ⟨by refine nE ?_; refine blk_put (cs := #[.int .i64 ((rd_T43 l0_1 x19_2).f0), .int .i64 ((rd_T43 l0_1 x19_2).f1), .int .i64 0]) ?_ 2 _ rfl; refine nE ?_; refine blk_put (cs := #[.int .i64 ((rd_T43 l0_1 x19_2).f0), .int .i64 0, .int .i64 0]) ?_ 1 _ rfl; refine nE ?_; refine blk_put (cs := #[.int .i64 0, .int .i64 0, .int .i64 0]) ?_ 0 _ rfl; exact nB BK115.out⟩, ⟨nH2 HB.out GE111.out GE115.out⟩⟩
          · replace c19 := Bool.eq_false_iff.mpr c19
            subst c19
            rw [if_neg nN] at H
            have H' := aM H
            clear H; have hnb30 := NB115_111.out; have hnc30 := NB111_115.out
            obtain ⟨hcz31_0, hcz31_1, hcz31_2, hfz31_0, hfz31_1, hfz31_2⟩ := nK3 BK115.out
            go_wp2_with (first | (go_at_call 44; (with_reducible refine (impl_between.calls ((rd_T43 l0_1 x19_2).f0) 0 29 false _ A18.out).mono ?_); rintro e w' ⟨rfl, ⟨nd, rfl⟩⟩; (try first | exact ⟨rfl, _, World.drewN_drewN _ _ _⟩ | exact ⟨rfl, _, Eq.trans (World.drewN_drewN _ _ _) (congrArg (World.drewN _) (Nat.add_assoc _ _ _))⟩)))
            repeat (go_quiet (first | (go_at_call 44; (with_reducible refine (impl_between.calls ((rd_T43 l0_1 x19_2).f0) 0 29 false _ A18.out).mono ?_); rintro e w' ⟨rfl, ⟨nd, rfl⟩⟩; (try first | exact ⟨rfl, _, World.drewN_drewN _ _ _⟩ | exact ⟨rfl, _, Eq.trans (World.drewN_drewN _ _ _) (congrArg (World.drewN _) (Nat.add_assoc _ _ _))⟩))); try go_wp2_with (first | (go_at_call 44; (with_reducible refine (impl_between.calls ((rd_T43 l0_1 x19_2).f0) 0 29 false _ A18.out).mono ?_); rintro e w' ⟨rfl, ⟨nd, rfl⟩⟩; (try first | exact ⟨rfl, _, World.drewN_drewN _ _ _⟩ | exact ⟨rfl, _, Eq.trans (World.drewN_drewN _ _ _) (congrArg (World.drewN _) (Nat.add_assoc _ _ _))⟩))))
            go_meet
            case rel => exact ⟨_, (true), nS, H', ⟨by have := HJ1.out; have := HK2.out; first | omega | exact Nat.le_refl _⟩, ⟨by refine nE ?_; refine blk_far ?_ NB111_115.out _; refine nE ?_; refine blk_far ?_ NB111_115.out _; refine nE ?_; refine blk_far ?_ NB111_115.out _; exact nB BK111.out⟩, ⟨by refine nE ?_; refine blk_put (cs := #[.int .i64 ((rd_T43 l0_1 x19_2).f0), .int .i64 ((rd_T43 l0_1 x19_2).f1), .int .i64 0]) ?_ 2 _ rfl; refine nE ?_; refine blk_put (cs := #[.int .i64 ((rd_T43 l0_1 x19_2).f0), .int .i64 0, .int .i64 0]) ?_ 1 _ rfl; refine nE ?_; refine blk_put (cs := #[.int .i64 0, .int .i64 0, .int .i64 0]) ?_ 0 _ rfl; exact nB BK115.out⟩, ⟨nH2 HB.out GE111.out GE115.out⟩⟩
         case rest =>
          clear HC14; try clear c1; try clear p1; try clear q1; try clear hx1; try clear c2; try clear p2; try clear c3; try clear c5; try clear p6; try clear c9; try clear c11; try clear c11b0; try clear p11; try clear q11; try clear hx11; try clear c12; try clear c12b0; try clear c13; try clear c13b0; try clear c16; try clear c19; try clear c21; try clear c23; try clear c24; try clear c26; try clear c28; try clear c30; try clear hcz10_0; try clear hcz10_1; try clear hcz17_0; try clear hcz17_1; try clear hcz17_2; try clear hcz25_0; try clear hcz25_1; try clear hcz25_2; try clear hcz27_0; try clear hcz27_1
          try clear hcz27_2; try clear hcz29_0; try clear hcz29_1; try clear hcz29_2; try clear hcz31_0; try clear hcz31_1; try clear hcz31_2; try clear hcz7_0; try clear hcz7_1; try clear hcz8_0; try clear hcz8_1; try clear hfz10_0; try clear hfz10_1; try clear hfz17_0; try clear hfz17_1; try clear hfz17_2; try clear hfz25_0; try clear hfz25_1; try clear hfz25_2; try clear hfz27_0; try clear hfz27_1; try clear hfz27_2; try clear hfz29_0; try clear hfz29_1; try clear hfz29_2; try clear hfz31_0; try clear hfz31_1; try clear hfz31_2; try clear hfz7_0; try clear hfz7_1; try clear hfz8_0; try clear hfz8_1
          try clear hx114_0; try clear hx114_1; try clear hx114_2; try clear p114; try clear p2; try clear p6; try clear q114
          obtain ⟨kq, x46_13, rfl, HA, HJ13, BK111, BK115, HB⟩ := hcut
          cases kq with
          | zero => exact absurd HA.out (by simp [impl_TripOk.j2])
          | succ kj13 =>
           have H := HA.out; clear HA
           simp only [impl_TripOk.j2] at H
           by_cases c32 : x46_13 = true
           · subst c32
             rw [if_pos rfl] at H; obtain rfl := Option.some.inj H; go_wp2
             repeat (go_quiet (fail); try go_wp2)
             go_ret
             exact ⟨by first | rfl | (simp [errW_none, errW_some] <;> rfl) | (simp [*, errW_none, errW_some] <;> first | rfl | (simp [wrap64]; done)), nH2 HB.out GE111.out GE115.out⟩
           · replace c32 := Bool.eq_false_iff.mpr c32
             subst c32
             rw [if_neg nN] at H
             by_cases c33 : x19_2 > 0
             · rw [if_pos c33] at H
               have c33b0 : decide (0 < x19_2) = true := decide_eq_true c33
               clear c33
               obtain ⟨ji34, hji34⟩ : ∃ j_ : Int, (wrap64 (x19_2 - 1)) = j_ := ⟨_, rfl⟩
               replace H : (if 0 ≤ (ji34) then (if (ji34) < (l0_1.length : Int) then (if ((rd_T43 l0_1 x19_2).f1) ≤ ((rd_T43 l0_1 (ji34)).f2) then (some false) else (if ((rd_T43 l0_1 x19_2).f0) = ((rd_T43 l0_1 (ji34)).f0) then (some false) else (impl_TripOk.l0 kj13 l0_1 (l0_1.length : Int) (wrap64 (x19_2 + 1)) a0_0 l0_1))) else (none)) else (none)) = some r := by first | (rw [hji34] at H; exact H) | (simp only [hji34] at H ⊢; exact H)
               have hji34w : (IntKind.i64.wrap (x19_2 - 1)) = ji34 := (i64_w _).trans hji34
               by_cases c35 : 0 ≤ (ji34)
               rotate_left
               · (rw [if_neg c35] at H; exact absurd H (by simp))
               rw [if_pos c35] at H
               have c35b0 : decide (0 ≤ (ji34)) = true := decide_eq_true c35
               clear c35
               by_cases c36 : (ji34) < (l0_1.length : Int)
               rotate_left
               · (rw [if_neg c36] at H; exact absurd H (by simp))
               rw [if_pos c36] at H
               have c36b0 : decide ((ji34) < (l0_1.length : Int)) = true := decide_eq_true c36
               clear c36
               by_cases c37 : ((rd_T43 l0_1 x19_2).f1) ≤ ((rd_T43 l0_1 (ji34)).f2)
               · rw [if_pos c37] at H
                 have c37b0 : decide (((rd_T43 l0_1 x19_2).f1) ≤ ((rd_T43 l0_1 (ji34)).f2)) = true := decide_eq_true c37
                 clear c37; obtain rfl := Option.some.inj H; have hnb38 := NB115_111.out; have hnc38 := NB111_115.out
                 obtain ⟨hcz39_0, hcz39_1, hcz39_2, hfz39_0, hfz39_1, hfz39_2⟩ := nK3 BK115.out
                 obtain ⟨hcz40_0, hcz40_1, hfz40_0, hfz40_1⟩ := nK2 BK111.out
                 have p119 : 0 ≤ ((ji34) : Int) := of_decide_eq_true nQ
                 have q119 : (ji34) < (l0_1.length : Int) := of_decide_eq_true nQ
                 obtain ⟨ad119, e119, hx119_0, hx119_1, hx119_2⟩ := at_T43 HR0_1.out (ji34) p119 q119
                 obtain rfl : ad114 = ad119 := (by injection e119)
                 replace hx119_0 := (HB.out.cell (World.block_lt_of_cell? w _ hx119_0)).trans hx119_0
                 replace hx119_1 := (HB.out.cell (World.block_lt_of_cell? w _ hx119_1)).trans hx119_1
                 replace hx119_2 := (HB.out.cell (World.block_lt_of_cell? w _ hx119_2)).trans hx119_2
                 replace p119 := eq_true p119; replace q119 := eq_true q119; go_wp2
                 repeat (go_quiet (fail); try go_wp2)
                 go_ret
                 exact ⟨by first | rfl | (simp [errW_none, errW_some] <;> rfl) | (simp only [← hji34]; first | rfl | (simp [errW_none, errW_some] <;> rfl)) | (simp [*, errW_none, errW_some] <;> first | rfl | (simp [wrap64]; done)), nH2 HB.out GE111.out GE115.out⟩
               · rw [if_neg c37] at H
                 have c37b0 : decide (((rd_T43 l0_1 x19_2).f1) ≤ ((rd_T43 l0_1 (ji34)).f2)) = false := decide_eq_false c37
                 clear c37
                 by_cases c41 : ((rd_T43 l0_1 x19_2).f0) = ((rd_T43 l0_1 (ji34)).f0)
                 · rw [if_pos c41] at H
                   have c41b0 : (((rd_T43 l0_1 x19_2).f0) == ((rd_T43 l0_1 (ji34)).f0)) = true := beq_iff_eq.mpr c41
                   have c41b1 : (((rd_T43 l0_1 x19_2).f0) != ((rd_T43 l0_1 (ji34)).f0)) = false := bne_eq_false_iff_eq.mpr c41
                   clear c41; obtain rfl := Option.some.inj H; have hnb42 := NB115_111.out; have hnc42 := NB111_115.out
                   obtain ⟨hcz43_0, hcz43_1, hcz43_2, hfz43_0, hfz43_1, hfz43_2⟩ := nK3 BK115.out
                   obtain ⟨hcz44_0, hcz44_1, hfz44_0, hfz44_1⟩ := nK2 BK111.out
                   have p119 : 0 ≤ ((ji34) : Int) := of_decide_eq_true nQ
                   have q119 : (ji34) < (l0_1.length : Int) := of_decide_eq_true nQ
                   obtain ⟨ad119, e119, hx119_0, hx119_1, hx119_2⟩ := at_T43 HR0_1.out (ji34) p119 q119
                   obtain rfl : ad114 = ad119 := (by injection e119)
                   replace hx119_0 := (HB.out.cell (World.block_lt_of_cell? w _ hx119_0)).trans hx119_0
                   replace hx119_1 := (HB.out.cell (World.block_lt_of_cell? w _ hx119_1)).trans hx119_1
                   replace hx119_2 := (HB.out.cell (World.block_lt_of_cell? w _ hx119_2)).trans hx119_2
                   replace p119 := eq_true p119; replace q119 := eq_true q119
                   have p120 : 0 ≤ ((ji34) : Int) := of_decide_eq_true nQ
                   have q120 : (ji34) < (l0_1.length : Int) := of_decide_eq_true nQ
                   obtain ⟨ad120, e120, hx120_0, hx120_1, hx120_2⟩ := at_T43 HR0_1.out (ji34) p120 q120
                   obtain rfl : ad114 = ad120 := (by injection e120)
                   replace hx120_0 := (HB.out.cell (World.block_lt_of_cell? w _ hx120_0)).trans hx120_0
                   replace hx120_1 := (HB.out.cell (World.block_lt_of_cell? w _ hx120_1)).trans hx120_1
                   replace hx120_2 := (HB.out.cell (World.block_lt_of_cell? w _ hx120_2)).trans hx120_2
                   replace p120 := eq_true p120; replace q120 := eq_true q120; go_wp2
                   repeat (go_quiet (fail); try go_wp2)
                   go_ret
                   exact ⟨by first | rfl | (simp [errW_none, errW_some] <;> rfl) | (simp only [← hji34]; first | rfl | (simp [errW_none, errW_some] <;> rfl)) | (simp [*, errW_none, errW_some] <;> first | rfl | (simp [wrap64]; done)), nH2 HB.out GE111.out GE115.out⟩
                 · rw [if_neg c41] at H
                   have c41b0 : (((rd_T43 l0_1 x19_2).f0) == ((rd_T43 l0_1 (ji34)).f0)) = false := beq_eq_false_iff_ne.mpr c41
                   have c41b1 : (((rd_T43 l0_1 x19_2).f0) != ((rd_T43 l0_1 (ji34)).f0)) = true := bne_iff_ne.mpr c41
                   have H' := aM H
                   clear H; have hnb45 := NB115_111.out; have hnc45 := NB111_115.out
                   obtain ⟨hcz46_0, hcz46_1, hcz46_2, hfz46_0, hfz46_1, hfz46_2⟩ := nK3 BK115.out
                   obtain ⟨hcz47_0, hcz47_1, hfz47_0, hfz47_1⟩ := nK2 BK111.out
                   have p119 : 0 ≤ ((ji34) : Int) := of_decide_eq_true nQ
                   have q119 : (ji34) < (l0_1.length : Int) := of_decide_eq_true nQ
                   obtain ⟨ad119, e119, hx119_0, hx119_1, hx119_2⟩ := at_T43 HR0_1.out (ji34) p119 q119
                   obtain rfl : ad114 = ad119 := (by injection e119)
                   replace hx119_0 := (HB.out.cell (World.block_lt_of_cell? w _ hx119_0)).trans hx119_0
                   replace hx119_1 := (HB.out.cell (World.block_lt_of_cell? w _ hx119_1)).trans hx119_1
                   replace hx119_2 := (HB.out.cell (World.block_lt_of_cell? w _ hx119_2)).trans hx119_2
                   replace p119 := eq_true p119; replace q119 := eq_true q119
                   have p120 : 0 ≤ ((ji34) : Int) := of_decide_eq_true nQ
                   have q120 : (ji34) < (l0_1.length : Int) := of_decide_eq_true nQ
                   obtain ⟨ad120, e120, hx120_0, hx120_1, hx120_2⟩ := at_T43 HR0_1.out (ji34) p120 q120
                   obtain rfl : ad114 = ad120 := (by injection e120)
                   replace hx120_0 := (HB.out.cell (World.block_lt_of_cell? w _ hx120_0)).trans hx120_0
                   replace hx120_1 := (HB.out.cell (World.block_lt_of_cell? w _ hx120_1)).trans hx120_1
                   replace hx120_2 := (HB.out.cell (World.block_lt_of_cell? w _ hx120_2)).trans hx120_2
                   replace p120 := eq_true p120; replace q120 := eq_true q120; go_wp2
                   repeat (go_quiet (fail); try go_wp2)
                   go_roundg kj13
                   case measure => have := HJ1.out; have := HK2.out; have := HJ13.out; omega
                   case rel => exact ⟨(wrap64 (x19_2 + 1)), nS, H', ⟨by have := HJ1.out; have := HK2.out; have := HJ13.out; omega⟩, ⟨by exact nB BK111.out⟩, ⟨nH2 HB.out GE111.out GE115.out⟩⟩
             · rw [if_neg c33] at H
               have c33b0 : decide (0 < x19_2) = false := decide_eq_false c33
               clear c33
               have H' := aM H
               clear H; go_wp2
               repeat (go_quiet (fail); try go_wp2)
               go_roundg kj13
               case measure => have := HJ1.out; have := HK2.out; have := HJ13.out; omega
               case rel => exact ⟨(wrap64 (x19_2 + 1)), nS, H', ⟨by have := HJ1.out; have := HK2.out; have := HJ13.out; omega⟩, ⟨by exact nB BK111.out⟩, ⟨nH2 HB.out GE111.out GE115.out⟩⟩
       · rw [if_neg c11] at H
         have c11b0 : decide (x19_2 < (l0_1.length : Int)) = false := decide_eq_false c11
         clear c11; obtain rfl := Option.some.inj H; go_wp2
         repeat (go_quiet (fail); try go_wp2)
         go_ret
         exact ⟨by first | rfl | (simp [errW_none, errW_some] <;> rfl) | (simp [*, errW_none, errW_some] <;> first | rfl | (simp [wrap64]; done)), nH1 HB.out GE111.out⟩
end Go.Proofs.YtdpjoblnjjkbfaaDoor.P

/- Contracts of functions, each with its plain Lean function. -/
import Derived.Test.YtdpjoblnjjkbfaaDoorNe
import Derived.Test.YtdpjoblnjjkbfaaDoorNc
import Derived.Test.YtdpjoblnjjkbfaaDoorPx0
import Derived.Test.YtdpjoblnjjkbfaaDoorPx22
import Derived.Test.YtdpjoblnjjkbfaaDoorPx23
namespace Go.Proofs.YtdpjoblnjjkbfaaDoor.P
open Go.RowKit Go.Proofs.YtdpjoblnjjkbfaaDoorW.PrintWords Go.Proofs.YtdpjoblnjjkbfaaDoorW.PrintLast Go.Proofs.YtdpjoblnjjkbfaaDoorW.PrintMore
attribute [local go_sem] max2_int min2_int max_two min_two max_three min_three max_four min_four   -- for this text's walks alone
set_option linter.unusedVariables false
set_option linter.unusedSimpArgs false
/-! ### spec_TripOk: function 61 -/
theorem spec_TripOk.mono_l : ∀ k, (∀ y0 y1 y2, LeO (spec_TripOk.j0 k y0 y1 y2) (spec_TripOk.j0 (k + 1) y0 y1 y2)) ∧ (∀ y0 y1 y2, LeO (spec_TripOk.l0 k y0 y1 y2) (spec_TripOk.l0 (k + 1) y0 y1 y2)) ∧ (∀ y0 y1 y2 y3 y4 y5 y6, LeO (spec_TripOk.j2 k y0 y1 y2 y3 y4 y5 y6) (spec_TripOk.j2 (k + 1) y0 y1 y2 y3 y4 y5 y6))
 | 0 => ⟨fun _ _ _ r h => by simp [spec_TripOk.j0] at h, fun _ _ _ r h => by simp [spec_TripOk.l0] at h, fun _ _ _ _ _ _ _ r h => by simp [spec_TripOk.j2] at h⟩
 | k + 1 => by
  obtain ⟨ih0, ih1, ih2⟩ := spec_TripOk.mono_l k
  refine ⟨?_, ?_, ?_⟩
  all_goals intros
  all_goals first | unfold spec_TripOk.j0 | unfold spec_TripOk.l0 | unfold spec_TripOk.j2
  all_goals
   repeat' first
   | (with_reducible exact ih0 _ _ _)
   | (with_reducible exact ih1 _ _ _)
   | (with_reducible exact ih2 _ _ _ _ _ _ _)
   | (with_reducible exact spec_l01Name.mono _ _)
   | (with_reducible exact LeO.refl _)
   | (with_reducible exact LeO.none _)
   | (with_reducible refine LeO.ite ?_ ?_)
   | (with_reducible refine LeO.bind ?_ (fun _ => ?_))
   | exact ih0 _ _ _
   | exact ih1 _ _ _
   | exact ih2 _ _ _ _ _ _ _
   | exact spec_l01Name.mono _ _
   | exact LeO.none _
   | refine LeO.ite ?_ ?_
   | refine LeO.bind ?_ (fun _ => ?_)
theorem spec_TripOk.mono : ∀ a0 a1 k, LeO (spec_TripOk.f k a0 a1) (spec_TripOk.f (k + 1) a0 a1) := by
 intro a0 a1 k
 obtain ⟨ih0, ih1, ih2⟩ := spec_TripOk.mono_l k
 unfold spec_TripOk.f
 repeat' first
  | (with_reducible exact ih0 _ _ _)
  | (with_reducible exact ih1 _ _ _)
  | (with_reducible exact ih2 _ _ _ _ _ _ _)
  | (with_reducible exact spec_l01Name.mono _ _)
  | (with_reducible exact LeO.refl _)
  | (with_reducible exact LeO.none _)
  | (with_reducible refine LeO.ite ?_ ?_)
  | (with_reducible refine LeO.bind ?_ (fun _ => ?_))
  | exact ih0 _ _ _
  | exact ih1 _ _ _
  | exact ih2 _ _ _ _ _ _ _
  | exact spec_l01Name.mono _ _
  | exact LeO.none _
  | refine LeO.ite ?_ ?_
  | refine LeO.bind ?_ (fun _ => ?_)
set_option maxHeartbeats 8000000 in
set_option maxRecDepth 100000 in
theorem spec_TripOk.calls (k : Nat) (a0_0 : ByteArray) (A0_1 : Option Addr) (c0_1 : Nat) (l0_1 : List (S43)) (r : Bool) (w : World) (hr0_1 : Kd.C k43 w A0_1 l0_1.length l0_1) (hc0_1 : l0_1.length ≤ c0_1) (h : spec_TripOk.f k a0_0 l0_1 = some r) :
 Calls Tryd.prog 61 #[.agg #[.string a0_0, .slice A0_1 l0_1.length c0_1]] w fun e w' => e = .returned (.bool r) ∧ Below w.heap.size w w' := by
 have hu46 := Tryd.underlying46; have hu43 := Tryd.underlying43
 have HR0_1 := aM hr0_1
 have HC0_1 := aM hc0_1
 clear hr0_1 hc0_1
 have HB := aM (Below.refl w.heap.size w)
 have H : ((spec_l01Name.f k a0_0).bind fun t306 => (if t306 = true then ((spec_l01In.f (l0_1.length : Int) 2 12).bind fun t307 => (spec_TripOk.j0 k (!t307) a0_0 l0_1)) else (spec_TripOk.j0 k true a0_0 l0_1))) = some r := h
 clear h
 have HC2 := aM H
 clear H
 go_enter Tryd.func61, Tryd.ntmps61
 go_upto_region 1 with (first | ((with_reducible refine gate_dst (N := 1) rfl ?_); (try (refine gate_guard (by rfl) ?_; dsimp only)); refine box_event ?hg (N := 1) ?hd (cs := #[.string a0_0, .slice A0_1 l0_1.length c0_1]) (t := 46) ?hr ?_; (case hd => rfl); (case hg => rfl); (case hr => first | (go_simp; done) | (go_simp; rfl)); intro gb305 hg w3 hbox hb; have n_ := aA (below_step (nH HB.out) hb) <| aA (hbox) <| aA (bS hg (nH HB.out)) <| aM (bS hg (nH HB.out)); clear HB; obtain ⟨HB, BK305, GW305, GE305⟩ := n_; clear hb hbox hg))
 repeat (go_quiet (first | ((with_reducible refine gate_dst (N := 1) rfl ?_); (try (refine gate_guard (by rfl) ?_; dsimp only)); refine box_event ?hg (N := 1) ?hd (cs := #[.string a0_0, .slice A0_1 l0_1.length c0_1]) (t := 46) ?hr ?_; (case hd => rfl); (case hg => rfl); (case hr => first | (go_simp; done) | (go_simp; rfl)); intro gb305 hg w3 hbox hb; have n_ := aA (below_step (nH HB.out) hb) <| aA (hbox) <| aA (bS hg (nH HB.out)) <| aM (bS hg (nH HB.out)); clear HB; obtain ⟨HB, BK305, GW305, GE305⟩ := n_; clear hb hbox hg)); go_upto_region 1 with (first | ((with_reducible refine gate_dst (N := 1) rfl ?_); (try (refine gate_guard (by rfl) ?_; dsimp only)); refine box_event ?hg (N := 1) ?hd (cs := #[.string a0_0, .slice A0_1 l0_1.length c0_1]) (t := 46) ?hr ?_; (case hd => rfl); (case hg => rfl); (case hr => first | (go_simp; done) | (go_simp; rfl)); intro gb305 hg w3 hbox hb; have n_ := aA (below_step (nH HB.out) hb) <| aA (hbox) <| aA (bS hg (nH HB.out)) <| aM (bS hg (nH HB.out)); clear HB; obtain ⟨HB, BK305, GW305, GE305⟩ := n_; clear hb hbox hg)))
 (try simp only [Act.put, List.setIfInBounds_toArray, List.set_cons_zero, List.set_cons_succ])
 go_cut [15] (fun v15 wc => ∃ (kq : Nat) (x15_1 : Bool), v15 = .bool x15_1 ∧ Aside0 (spec_TripOk.j0 kq x15_1 a0_0 l0_1 = some r) ∧ Aside0 (kq ≤ k) ∧ Aside0 (wc.heap[gb305]? = some (.cells #[.string a0_0, (.slice A0_1 l0_1.length c0_1)] 46 (0, 0))) ∧ Aside0 (Below w.heap.size w wc))
 case first =>
  have H := HC2.out; clear HC2
  obtain ⟨t306, A40, H⟩ := Option.bind_eq_some_iff.mp H
  have A4 := aM A40
  clear A40
  by_cases c5 : t306 = true
  · subst c5
    rw [if_pos rfl] at H
    obtain ⟨t307, A60, H⟩ := Option.bind_eq_some_iff.mp H
    have A6 := aM A60
    clear A60
    have H' := aM H
    clear H
    obtain ⟨hcz7_0, hcz7_1, hfz7_0, hfz7_1⟩ := nK2 BK305.out
    go_wp2_with (first | (go_at_call 71; (with_reducible refine (spec_l01Name.calls k a0_0 true _ A4.out).mono ?_); rintro e w' ⟨rfl, ⟨nd, rfl⟩⟩; (try first | exact ⟨rfl, _, World.drewN_drewN _ _ _⟩ | exact ⟨rfl, _, Eq.trans (World.drewN_drewN _ _ _) (congrArg (World.drewN _) (Nat.add_assoc _ _ _))⟩)) | (go_at_call 47; (with_reducible refine (spec_l01In.calls (l0_1.length : Int) 2 12 t307 _ A6.out).mono ?_); rintro e w' ⟨rfl, ⟨nd, rfl⟩⟩; (try first | exact ⟨rfl, _, World.drewN_drewN _ _ _⟩ | exact ⟨rfl, _, Eq.trans (World.drewN_drewN _ _ _) (congrArg (World.drewN _) (Nat.add_assoc _ _ _))⟩)))
    repeat (go_quiet (first | (go_at_call 71; (with_reducible refine (spec_l01Name.calls k a0_0 true _ A4.out).mono ?_); rintro e w' ⟨rfl, ⟨nd, rfl⟩⟩; (try first | exact ⟨rfl, _, World.drewN_drewN _ _ _⟩ | exact ⟨rfl, _, Eq.trans (World.drewN_drewN _ _ _) (congrArg (World.drewN _) (Nat.add_assoc _ _ _))⟩)) | (go_at_call 47; (with_reducible refine (spec_l01In.calls (l0_1.length : Int) 2 12 t307 _ A6.out).mono ?_); rintro e w' ⟨rfl, ⟨nd, rfl⟩⟩; (try first | exact ⟨rfl, _, World.drewN_drewN _ _ _⟩ | exact ⟨rfl, _, Eq.trans (World.drewN_drewN _ _ _) (congrArg (World.drewN _) (Nat.add_assoc _ _ _))⟩))); try go_wp2_with (first | (go_at_call 71; (with_reducible refine (spec_l01Name.calls k a0_0 true _ A4.out).mono ?_); rintro e w' ⟨rfl, ⟨nd, rfl⟩⟩; (try first | exact ⟨rfl, _, World.drewN_drewN _ _ _⟩ | exact ⟨rfl, _, Eq.trans (World.drewN_drewN _ _ _) (congrArg (World.drewN _) (Nat.add_assoc _ _ _))⟩)) | (go_at_call 47; (with_reducible refine (spec_l01In.calls (l0_1.length : Int) 2 12 t307 _ A6.out).mono ?_); rintro e w' ⟨rfl, ⟨nd, rfl⟩⟩; (try first | exact ⟨rfl, _, World.drewN_drewN _ _ _⟩ | exact ⟨rfl, _, Eq.trans (World.drewN_drewN _ _ _) (congrArg (World.drewN _) (Nat.add_assoc _ _ _))⟩))))
    go_meet
    case rel => exact ⟨_, (!t307), nS, H', ⟨by first | omega | exact Nat.le_refl _⟩, ⟨by exact nB BK305.out⟩, ⟨nH1 HB.out GE305.out⟩⟩
  · replace c5 := Bool.eq_false_iff.mpr c5
    subst c5
    rw [if_neg nN] at H
    have H' := aM H
    clear H
    obtain ⟨hcz8_0, hcz8_1, hfz8_0, hfz8_1⟩ := nK2 BK305.out
    go_wp2_with (first | (go_at_call 71; (with_reducible refine (spec_l01Name.calls k a0_0 false _ A4.out).mono ?_); rintro e w' ⟨rfl, ⟨nd, rfl⟩⟩; (try first | exact ⟨rfl, _, World.drewN_drewN _ _ _⟩ | exact ⟨rfl, _, Eq.trans (World.drewN_drewN _ _ _) (congrArg (World.drewN _) (Nat.add_assoc _ _ _))⟩)))
    repeat (go_quiet (first | (go_at_call 71; (with_reducible refine (spec_l01Name.calls k a0_0 false _ A4.out).mono ?_); rintro e w' ⟨rfl, ⟨nd, rfl⟩⟩; (try first | exact ⟨rfl, _, World.drewN_drewN _ _ _⟩ | exact ⟨rfl, _, Eq.trans (World.drewN_drewN _ _ _) (congrArg (World.drewN _) (Nat.add_assoc _ _ _))⟩))); try go_wp2_with (first | (go_at_call 71; (with_reducible refine (spec_l01Name.calls k a0_0 false _ A4.out).mono ?_); rintro e w' ⟨rfl, ⟨nd, rfl⟩⟩; (try first | exact ⟨rfl, _, World.drewN_drewN _ _ _⟩ | exact ⟨rfl, _, Eq.trans (World.drewN_drewN _ _ _) (congrArg (World.drewN _) (Nat.add_assoc _ _ _))⟩))))
    go_meet
    case rel => exact ⟨_, (true), nS, H', ⟨by first | omega | exact Nat.le_refl _⟩, ⟨by exact nB BK305.out⟩, ⟨nH1 HB.out GE305.out⟩⟩
 case rest =>
  clear HC2; try clear p2; try clear c5; try clear c6; try clear hcz7_0; try clear hcz7_1; try clear hcz8_0; try clear hcz8_1; try clear hfz7_0; try clear hfz7_1; try clear hfz8_0; try clear hfz8_1
  obtain ⟨kq, x15_1, rfl, HA, HJ1, BK305, HB⟩ := hcut
  cases kq with
  | zero => exact absurd HA.out (by simp [spec_TripOk.j0])
  | succ kj1 =>
   have H := HA.out; clear HA
   simp only [spec_TripOk.j0] at H
   by_cases c9 : x15_1 = true
   · subst c9
     rw [if_pos rfl] at H; obtain rfl := Option.some.inj H; go_wp2
     repeat (go_quiet (fail); try go_wp2)
     go_ret
     exact ⟨by first | rfl | (simp [errW_none, errW_some] <;> rfl) | (simp [*, errW_none, errW_some] <;> first | rfl | (simp [wrap64]; done)), nH1 HB.out GE305.out⟩
   · replace c9 := Bool.eq_false_iff.mpr c9
     subst c9
     rw [if_neg nN] at H
     have H' := aM H
     clear H; go_wp2
     repeat (go_quiet (fail); try go_wp2)
     go_loopg [3] kj1 (fun kq v3 w' => ∃ (x3_2 : Int), v3 = .int .i64 x3_2 ∧ Aside0 (spec_TripOk.l0 kq x3_2 a0_0 l0_1 = some r) ∧ Aside0 (kq ≤ kj1) ∧ Aside0 (w'.heap[gb305]? = some (.cells #[.string a0_0, (.slice A0_1 l0_1.length c0_1)] 46 (0, 0))) ∧ Aside0 (Below w.heap.size w w'))
     case atStart => exact ⟨(0), nS, H', ⟨Nat.le_refl _⟩, ⟨by exact nB BK305.out⟩, ⟨nH1 HB.out GE305.out⟩⟩
     case round =>
      clear H'
      try clear p2; try clear c5; try clear c6; try clear p6; try clear c9; try clear hcz7_0; try clear hcz7_1; try clear hcz8_0; try clear hcz8_1; try clear hfz7_0; try clear hfz7_1; try clear hfz8_0; try clear hfz8_1; try clear p2
      obtain ⟨x3_2, rfl, HA, HK2, BK305, HB⟩ := hrel
      cases gk with
      | zero => exact absurd HA.out (by simp [spec_TripOk.l0])
      | succ k2 =>
       have H := HA.out; clear HA
       simp only [spec_TripOk.l0] at H
       by_cases c10 : x3_2 < (l0_1.length : Int)
       · rw [if_pos c10] at H
         have c10b0 : decide (x3_2 < (l0_1.length : Int)) = true := decide_eq_true c10
         clear c10
         by_cases c11 : 0 ≤ x3_2
         rotate_left
         · (rw [if_neg c11] at H; exact absurd H (by simp))
         rw [if_pos c11] at H
         have c11b0 : decide (0 ≤ x3_2) = true := decide_eq_true c11
         clear c11
         have HC12 := aM H
         clear H
         obtain ⟨hcz13_0, hcz13_1, hfz13_0, hfz13_1⟩ := nK2 BK305.out
         have p308 : 0 ≤ (x3_2 : Int) := of_decide_eq_true nQ
         have q308 : x3_2 < (l0_1.length : Int) := of_decide_eq_true nQ
         obtain ⟨ad308, e308, hx308_0, hx308_1, hx308_2⟩ := at_T43 HR0_1.out x3_2 p308 q308
         cases e308
         replace hx308_0 := (HB.out.cell (World.block_lt_of_cell? w _ hx308_0)).trans hx308_0
         replace hx308_1 := (HB.out.cell (World.block_lt_of_cell? w _ hx308_1)).trans hx308_1
         replace hx308_2 := (HB.out.cell (World.block_lt_of_cell? w _ hx308_2)).trans hx308_2
         replace p308 := eq_true p308; replace q308 := eq_true q308
         go_upto_region 7 with (first | ((with_reducible refine gate_dst (N := 4) rfl ?_); (try (refine gate_guard (by rfl) ?_; dsimp only)); refine box_event ?hg (N := 4) ?hd (cs := #[.int .i64 0, .int .i64 0, .int .i64 0]) (t := 43) ?hr ?_; (case hd => rfl); (case hg => rfl); (case hr => first | (go_simp; done) | (go_simp; rfl)); intro gb309 hg w14 hbox hb; have n_ := aA (nBB BK305.out hb) <| aA (below_step (nH1 HB.out GE305.out) hb) <| aA (hbox) <| aA (bS hg (nH1 HB.out GE305.out)) <| aA (bS hg (nH1 HB.out GE305.out)) <| aA (nBL BK305.out hg) <| aM (by rw [hg]; exact Nat.ne_of_gt (blk_lt (g := gb305) (o := .cells #[.string a0_0, .slice (some ad308) l0_1.length c0_1] 46 (0, 0)) (nB BK305.out)) : gb309 ≠ gb305); clear BK305 HB; obtain ⟨BK305, HB, BK309, GW309, GE309, NB305_309, NB309_305⟩ := n_; clear hb hbox hg; have hnb15 := NB309_305.out; have hnc15 := NB305_309.out; obtain ⟨hcz16_0, hcz16_1, hcz16_2, hfz16_0, hfz16_1, hfz16_2⟩ := nK3 BK309.out))
         repeat (go_quiet (first | ((with_reducible refine gate_dst (N := 4) rfl ?_); (try (refine gate_guard (by rfl) ?_; dsimp only)); refine box_event ?hg (N := 4) ?hd (cs := #[.int .i64 0, .int .i64 0, .int .i64 0]) (t := 43) ?hr ?_; (case hd => rfl); (case hg => rfl); (case hr => first | (go_simp; done) | (go_simp; rfl)); intro gb309 hg w14 hbox hb; have n_ := aA (nBB BK305.out hb) <| aA (below_step (nH1 HB.out GE305.out) hb) <| aA (hbox) <| aA (bS hg (nH1 HB.out GE305.out)) <| aA (bS hg (nH1 HB.out GE305.out)) <| aA (nBL BK305.out hg) <| aM (by rw [hg]; exact Nat.ne_of_gt (blk_lt (g := gb305) (o := .cells #[.string a0_0, .slice (some ad308) l0_1.length c0_1] 46 (0, 0)) (nB BK305.out)) : gb309 ≠ gb305); clear BK305 HB; obtain ⟨BK305, HB, BK309, GW309, GE309, NB305_309, NB309_305⟩ := n_; clear hb hbox hg; have hnb15 := NB309_305.out; have hnc15 := NB305_309.out; obtain ⟨hcz16_0, hcz16_1, hcz16_2, hfz16_0, hfz16_1, hfz16_2⟩ := nK3 BK309.out)); go_upto_region 7 with (first | ((with_reducible refine gate_dst (N := 4) rfl ?_); (try (refine gate_guard (by rfl) ?_; dsimp only)); refine box_event ?hg (N := 4) ?hd (cs := #[.int .i64 0, .int .i64 0, .int .i64 0]) (t := 43) ?hr ?_; (case hd => rfl); (case hg => rfl); (case hr => first | (go_simp; done) | (go_simp; rfl)); intro gb309 hg w14 hbox hb; have n_ := aA (nBB BK305.out hb) <| aA (below_step (nH1 HB.out GE305.out) hb) <| aA (hbox) <| aA (bS hg (nH1 HB.out GE305.out)) <| aA (bS hg (nH1 HB.out GE305.out)) <| aA (nBL BK305.out hg) <| aM (by rw [hg]; exact Nat.ne_of_gt (blk_lt (g := gb305) (o := .cells #[.string a0_0, .slice (some ad308) l0_1.length c0_1] 46 (0, 0)) (nB BK305.out)) : gb309 ≠ gb305); clear BK305 HB; obtain ⟨BK305, HB, BK309, GW309, GE309, NB305_309, NB309_305⟩ := n_; clear hb hbox hg; have hnb15 := NB309_305.out; have hnc15 := NB305_309.out; obtain ⟨hcz16_0, hcz16_1, hcz16_2, hfz16_0, hfz16_1, hfz16_2⟩ := nK3 BK309.out)))
         (try simp only [Act.put, List.setIfInBounds_toArray, List.set_cons_zero, List.set_cons_succ])
         go_cut [45] (fun v45 wc => ∃ (kq : Nat) (x45_11 : Bool), v45 = .bool x45_11 ∧ Aside0 (spec_TripOk.j2 kq x3_2 x45_11 a0_0 l0_1 ((rd_T43 l0_1 x3_2).f0) ((rd_T43 l0_1 x3_2).f1) ((rd_T43 l0_1 x3_2).f2) = some r) ∧ Aside0 (kq ≤ k2) ∧ Aside0 (wc.heap[gb305]? = some (.cells #[.string a0_0, (.slice (some ad308) l0_1.length c0_1)] 46 (0, 0))) ∧ Aside0 (wc.heap[gb309]? = some (.cells #[.int .i64 ((rd_T43 l0_1 x3_2).f0), .int .i64 ((rd_T43 l0_1 x3_2).f1), .int .i64 ((rd_T43 l0_1 x3_2).f2)] 43 (0, 0))) ∧ Aside0 (Below w.heap.size w wc))
         case first =>
          have H := HC12.out; clear HC12
          obtain ⟨t310, A170, H⟩ := Option.bind_eq_some_iff.mp H
          have A17 := aM A170
          clear A170
          by_cases c18 : t310 = true
          · subst c18
            rw [if_pos rfl] at H
            obtain ⟨t311, A190, H⟩ := Option.bind_eq_some_iff.mp H
            have A19 := aM A190
            clear A190
            by_cases c20 : t311 = true
            · subst c20
              rw [if_pos rfl] at H
              obtain ⟨t312, A210, H⟩ := Option.bind_eq_some_iff.mp H
              have A21 := aM A210
              clear A210
              have H' := aM H
              clear H; have hnb22 := NB309_305.out; have hnc22 := NB305_309.out
              obtain ⟨hcz23_0, hcz23_1, hcz23_2, hfz23_0, hfz23_1, hfz23_2⟩ := nK3 BK309.out
              go_wp2_with (first | (go_at_call 47; (with_reducible refine (spec_l01In.calls ((rd_T43 l0_1 x3_2).f0) 0 29 true _ A17.out).mono ?_); rintro e w' ⟨rfl, ⟨nd, rfl⟩⟩; (try first | exact ⟨rfl, _, World.drewN_drewN _ _ _⟩ | exact ⟨rfl, _, Eq.trans (World.drewN_drewN _ _ _) (congrArg (World.drewN _) (Nat.add_assoc _ _ _))⟩)) | (go_at_call 47; (with_reducible refine (spec_l01In.calls ((rd_T43 l0_1 x3_2).f2) 0 100000 true _ A19.out).mono ?_); rintro e w' ⟨rfl, ⟨nd, rfl⟩⟩; (try first | exact ⟨rfl, _, World.drewN_drewN _ _ _⟩ | exact ⟨rfl, _, Eq.trans (World.drewN_drewN _ _ _) (congrArg (World.drewN _) (Nat.add_assoc _ _ _))⟩)) | (go_at_call 47; (with_reducible refine (spec_l01In.calls ((rd_T43 l0_1 x3_2).f1) 0 ((rd_T43 l0_1 x3_2).f2) t312 _ A21.out).mono ?_); rintro e w' ⟨rfl, ⟨nd, rfl⟩⟩; (try first | exact ⟨rfl, _, World.drewN_drewN _ _ _⟩ | exact ⟨rfl, _, Eq.trans (World.drewN_drewN _ _ _) (congrArg (World.drewN _) (Nat.add_assoc _ _ _))⟩)))
              repeat (go_quiet (first | (go_at_call 47; (with_reducible refine (spec_l01In.calls ((rd_T43 l0_1 x3_2).f0) 0 29 true _ A17.out).mono ?_); rintro e w' ⟨rfl, ⟨nd, rfl⟩⟩; (try first | exact ⟨rfl, _, World.drewN_drewN _ _ _⟩ | exact ⟨rfl, _, Eq.trans (World.drewN_drewN _ _ _) (congrArg (World.drewN _) (Nat.add_assoc _ _ _))⟩)) | (go_at_call 47; (with_reducible refine (spec_l01In.calls ((rd_T43 l0_1 x3_2).f2) 0 100000 true _ A19.out).mono ?_); rintro e w' ⟨rfl, ⟨nd, rfl⟩⟩; (try first | exact ⟨rfl, _, World.drewN_drewN _ _ _⟩ | exact ⟨rfl, _, Eq.trans (World.drewN_drewN _ _ _) (congrArg (World.drewN _) (Nat.add_assoc _ _ _))⟩)) | (go_at_call 47; (with_reducible refine (spec_l01In.calls ((rd_T43 l0_1 x3_2).f1) 0 ((rd_T43 l0_1 x3_2).f2) t312 _ A21.out).mono ?_); rintro e w' ⟨rfl, ⟨nd, rfl⟩⟩; (try first | exact ⟨rfl, _, World.drewN_drewN _ _ _⟩ | exact ⟨rfl, _, Eq.trans (World.drewN_drewN _ _ _) (congrArg (World.drewN _) (Nat.add_assoc _ _ _))⟩))); try go_wp2_with (first | (go_at_call 47; (with_reducible refine (spec_l01In.calls ((rd_T43 l0_1 x3_2).f0) 0 29 true _ A17.out).mono ?_); rintro e w' ⟨rfl, ⟨nd, rfl⟩⟩; (try first | exact ⟨rfl, _, World.drewN_drewN _ _ _⟩ | exact ⟨rfl, _, Eq.trans (World.drewN_drewN _ _ _) (congrArg (World.drewN _) (Nat.add_assoc _ _ _))⟩)) | (go_at_call 47; (with_reducible refine (spec_l01In.calls ((rd_T43 l0_1 x3_2).f2) 0 100000 true _ A19.out).mono ?_); rintro e w' ⟨rfl, ⟨nd, rfl⟩⟩; (try first | exact ⟨rfl, _, World.drewN_drewN _ _ _⟩ | exact ⟨rfl, _, Eq.trans (World.drewN_drewN _ _ _) (congrArg (World.drewN _) (Nat.add_assoc _ _ _))⟩)) | (go_at_call 47; (with_reducible refine (spec_l01In.calls ((rd_T43 l0_1 x3_2).f1) 0 ((rd_T43 l0_1 x3_2).f2) t312 _ A21.out).mono ?_); rintro e w' ⟨rfl, ⟨nd, rfl⟩⟩; (try first | exact ⟨rfl, _, World.drewN_drewN _ _ _⟩ | exact ⟨rfl, _, Eq.trans (World.drewN_drewN _ _ _) (congrArg (World.drewN _) (Nat.add_assoc _ _ _))⟩))))
              go_meet
              case rel => exact ⟨_, (!t312), nS, H', ⟨by have := HJ1.out; have := HK2.out; first | omega | exact Nat.le_refl _⟩, ⟨by refine nE ?_; refine blk_far ?_ NB305_309.out _; refine nE ?_; refine blk_far ?_ NB305_309.out _; refine nE ?_; refine blk_far ?_ NB305_309.out _; exact nB BK305.out⟩, ⟨by refine nE ?_; refine blk_put (cs := #[.int .i64 ((rd_T43 l0_1 x3_2).f0), .int .i64 ((rd_T43 l0_1 x3_2).f1), .int .i64 0]) ?_ 2 _ rfl; refine nE ?_; refine blk_put (cs := #[.int .i64 ((rd_T43 l0_1 x3_2).f0), .int .i64 0, .int .i64 0]) ?_ 1 _ rfl; refine nE ?_; refine blk_put (cs := #[.int .i64 0, .int .i64 0, .int .i64 0]) ?_ 0 _ rfl; exact nB BK309.out⟩, ⟨nH2 HB.out GE305.out GE309.out⟩⟩
            · replace c20 := Bool.eq_false_iff.mpr c20
              subst c20
              rw [if_neg nN] at H
              have H' := aM H
              clear H; have hnb24 := NB309_305.out; have hnc24 := NB305_309.out
              obtain ⟨hcz25_0, hcz25_1, hcz25_2, hfz25_0, hfz25_1, hfz25_2⟩ := nK3 BK309.out
              go_wp2_with (first | (go_at_call 47; (with_reducible refine (spec_l01In.calls ((rd_T43 l0_1 x3_2).f0) 0 29 true _ A17.out).mono ?_); rintro e w' ⟨rfl, ⟨nd, rfl⟩⟩; (try first | exact ⟨rfl, _, World.drewN_drewN _ _ _⟩ | exact ⟨rfl, _, Eq.trans (World.drewN_drewN _ _ _) (congrArg (World.drewN _) (Nat.add_assoc _ _ _))⟩)) | (go_at_call 47; (with_reducible refine (spec_l01In.calls ((rd_T43 l0_1 x3_2).f2) 0 100000 false _ A19.out).mono ?_); rintro e w' ⟨rfl, ⟨nd, rfl⟩⟩; (try first | exact ⟨rfl, _, World.drewN_drewN _ _ _⟩ | exact ⟨rfl, _, Eq.trans (World.drewN_drewN _ _ _) (congrArg (World.drewN _) (Nat.add_assoc _ _ _))⟩)))
              repeat (go_quiet (first | (go_at_call 47; (with_reducible refine (spec_l01In.calls ((rd_T43 l0_1 x3_2).f0) 0 29 true _ A17.out).mono ?_); rintro e w' ⟨rfl, ⟨nd, rfl⟩⟩; (try first | exact ⟨rfl, _, World.drewN_drewN _ _ _⟩ | exact ⟨rfl, _, Eq.trans (World.drewN_drewN _ _ _) (congrArg (World.drewN _) (Nat.add_assoc _ _ _))⟩)) | (go_at_call 47; (with_reducible refine (spec_l01In.calls ((rd_T43 l0_1 x3_2).f2) 0 100000 false _ A19.out).mono ?_); rintro e w' ⟨rfl, ⟨nd, rfl⟩⟩; (try first | exact ⟨rfl, _, World.drewN_drewN _ _ _⟩ | exact ⟨rfl, _, Eq.trans (World.drewN_drewN _ _ _) (congrArg (World.drewN _) (Nat.add_assoc _ _ _))⟩))); try go_wp2_with (first | (go_at_call 47; (with_reducible refine (spec_l01In.calls ((rd_T43 l0_1 x3_2).f0) 0 29 true _ A17.out).mono ?_); rintro e w' ⟨rfl, ⟨nd, rfl⟩⟩; (try first | exact ⟨rfl, _, World.drewN_drewN _ _ _⟩ | exact ⟨rfl, _, Eq.trans (World.drewN_drewN _ _ _) (congrArg (World.drewN _) (Nat.add_assoc _ _ _))⟩)) | (go_at_call 47; (with_reducible refine (spec_l01In.calls ((rd_T43 l0_1 x3_2).f2) 0 100000 false _ A19.out).mono ?_); rintro e w' ⟨rfl, ⟨nd, rfl⟩⟩; (try first | exact ⟨rfl, _, World.drewN_drewN _ _ _⟩ | exact ⟨rfl, _, Eq.trans (World.drewN_drewN _ _ _) (congrArg (World.drewN _) (Nat.add_assoc _ _ _))⟩))))
              go_meet
              case rel => exact ⟨_, (true), nS, H', ⟨by have := HJ1.out; have := HK2.out; first | omega | exact Nat.le_refl _⟩, ⟨by refine nE ?_; refine blk_far ?_ NB305_309.out _; refine nE ?_; refine blk_far ?_ NB305_309.out _; refine nE ?_; refine blk_far ?_ NB305_309.out _; exact nB BK305.out⟩, ⟨by refine nE ?_; refine blk_put (cs := #[.int .i64 ((rd_T43 l0_1 x3_2).f0), .int .i64 ((rd_T43 l0_1 x3_2).f1), .int .i64 0]) ?_ 2 _ rfl; refine nE ?_; refine blk_put (cs := #[.int .i64 ((rd_T43 l0_1 x3_2).f0), .int .i64 0, .int .i64 0]) ?_ 1 _ rfl; refine nE ?_; refine blk_put (cs := #[.int .i64 0, .int .i64 0, .int .i64 0]) ?_ 0 _ rfl; exact nB BK309.out⟩, ⟨nH2 HB.out GE305.out GE309.out⟩⟩
          · replace c18 := Bool.eq_false_iff.mpr c18
            subst c18
            rw [if_neg nN] at H
            have H' := aM H
            clear H; have hnb26 := NB309_305.out; have hnc26 := NB305_309.out
            obtain ⟨hcz27_0, hcz27_1, hcz27_2, hfz27_0, hfz27_1, hfz27_2⟩ := nK3 BK309.out
            go_wp2_with (first | (go_at_call 47; (with_reducible refine (spec_l01In.calls ((rd_T43 l0_1 x3_2).f0) 0 29 false _ A17.out).mono ?_); rintro e w' ⟨rfl, ⟨nd, rfl⟩⟩; (try first | exact ⟨rfl, _, World.drewN_drewN _ _ _⟩ | exact ⟨rfl, _, Eq.trans (World.drewN_drewN _ _ _) (congrArg (World.drewN _) (Nat.add_assoc _ _ _))⟩)))
            repeat (go_quiet (first | (go_at_call 47; (with_reducible refine (spec_l01In.calls ((rd_T43 l0_1 x3_2).f0) 0 29 false _ A17.out).mono ?_); rintro e w' ⟨rfl, ⟨nd, rfl⟩⟩; (try first | exact ⟨rfl, _, World.drewN_drewN _ _ _⟩ | exact ⟨rfl, _, Eq.trans (World.drewN_drewN _ _ _) (congrArg (World.drewN _) (Nat.add_assoc _ _ _))⟩))); try go_wp2_with (first | (go_at_call 47; (with_reducible refine (spec_l01In.calls ((rd_T43 l0_1 x3_2).f0) 0 29 false _ A17.out).mono ?_); rintro e w' ⟨rfl, ⟨nd, rfl⟩⟩; (try first | exact ⟨rfl, _, World.drewN_drewN _ _ _⟩ | exact ⟨rfl, _, Eq.trans (World.drewN_drewN _ _ _) (congrArg (World.drewN _) (Nat.add_assoc _ _ _))⟩))))
            go_meet
            case rel => exact ⟨_, (true), nS, H', ⟨by have := HJ1.out; have := HK2.out; first | omega | exact Nat.le_refl _⟩, ⟨by refine nE ?_; refine blk_far ?_ NB305_309.out _; refine nE ?_; refine blk_far ?_ NB305_309.out _; refine nE ?_; refine blk_far ?_ NB305_309.out _; exact nB BK305.out⟩, ⟨by refine nE ?_; refine blk_put (cs := #[.int .i64 ((rd_T43 l0_1 x3_2).f0), .int .i64 ((rd_T43 l0_1 x3_2).f1), .int .i64 0]) ?_ 2 _ rfl; refine nE ?_; refine blk_put (cs := #[.int .i64 ((rd_T43 l0_1 x3_2).f0), .int .i64 0, .int .i64 0]) ?_ 1 _ rfl; refine nE ?_; refine blk_put (cs := #[.int .i64 0, .int .i64 0, .int .i64 0]) ?_ 0 _ rfl; exact nB BK309.out⟩, ⟨nH2 HB.out GE305.out GE309.out⟩⟩
         case rest =>
          clear HC12; try clear c1; try clear c2; try clear p2; try clear p3; try clear q3; try clear hx3; try clear c5; try clear c6; try clear p6; try clear c9; try clear c10; try clear c10b0; try clear c11; try clear c11b0; try clear c15; try clear c18; try clear c20; try clear c22; try clear c24; try clear c26; try clear hcz13_0; try clear hcz13_1; try clear hcz16_0; try clear hcz16_1; try clear hcz16_2; try clear hcz23_0; try clear hcz23_1; try clear hcz23_2; try clear hcz25_0; try clear hcz25_1; try clear hcz25_2; try clear hcz27_0; try clear hcz27_1; try clear hcz27_2; try clear hcz7_0; try clear hcz7_1
          try clear hcz8_0; try clear hcz8_1; try clear hfz13_0; try clear hfz13_1; try clear hfz16_0; try clear hfz16_1; try clear hfz16_2; try clear hfz23_0; try clear hfz23_1; try clear hfz23_2; try clear hfz25_0; try clear hfz25_1; try clear hfz25_2; try clear hfz27_0; try clear hfz27_1; try clear hfz27_2; try clear hfz7_0; try clear hfz7_1; try clear hfz8_0; try clear hfz8_1; try clear hx308_0; try clear hx308_1; try clear hx308_2; try clear p2; try clear p308; try clear p6; try clear q308
          obtain ⟨kq, x45_11, rfl, HA, HJ11, BK305, BK309, HB⟩ := hcut
          cases kq with
          | zero => exact absurd HA.out (by simp [spec_TripOk.j2])
          | succ kj11 =>
           have H := HA.out; clear HA
           simp only [spec_TripOk.j2] at H
           by_cases c28 : x45_11 = true
           · subst c28
             rw [if_pos rfl] at H; obtain rfl := Option.some.inj H; go_wp2
             repeat (go_quiet (fail); try go_wp2)
             go_ret
             exact ⟨by first | rfl | (simp [errW_none, errW_some] <;> rfl) | (simp [*, errW_none, errW_some] <;> first | rfl | (simp [wrap64]; done)), nH2 HB.out GE305.out GE309.out⟩
           · replace c28 := Bool.eq_false_iff.mpr c28
             subst c28
             rw [if_neg nN] at H
             by_cases c29 : x3_2 > 0
             · rw [if_pos c29] at H
               have c29b0 : decide (0 < x3_2) = true := decide_eq_true c29
               clear c29
               obtain ⟨ji30, hji30⟩ : ∃ j_ : Int, (wrap64 (x3_2 - 1)) = j_ := ⟨_, rfl⟩
               replace H : (if 0 ≤ (ji30) then (if (ji30) < (l0_1.length : Int) then (if ((rd_T43 l0_1 (ji30)).f2) ≥ ((rd_T43 l0_1 x3_2).f1) then (some false) else (if ((rd_T43 l0_1 (ji30)).f0) = ((rd_T43 l0_1 x3_2).f0) then (some false) else (spec_TripOk.l0 kj11 (wrap64 (x3_2 + 1)) a0_0 l0_1))) else (none)) else (none)) = some r := by first | (rw [hji30] at H; exact H) | (simp only [hji30] at H ⊢; exact H)
               have hji30w : (IntKind.i64.wrap (x3_2 - 1)) = ji30 := (i64_w _).trans hji30
               by_cases c31 : 0 ≤ (ji30)
               rotate_left
               · (rw [if_neg c31] at H; exact absurd H (by simp))
               rw [if_pos c31] at H
               have c31b0 : decide (0 ≤ (ji30)) = true := decide_eq_true c31
               clear c31
               by_cases c32 : (ji30) < (l0_1.length : Int)
               rotate_left
               · (rw [if_neg c32] at H; exact absurd H (by simp))
               rw [if_pos c32] at H
               have c32b0 : decide ((ji30) < (l0_1.length : Int)) = true := decide_eq_true c32
               clear c32
               by_cases c33 : ((rd_T43 l0_1 (ji30)).f2) ≥ ((rd_T43 l0_1 x3_2).f1)
               · rw [if_pos c33] at H
                 have c33b0 : decide (((rd_T43 l0_1 x3_2).f1) ≤ ((rd_T43 l0_1 (ji30)).f2)) = true := decide_eq_true c33
                 clear c33; obtain rfl := Option.some.inj H; have hnb34 := NB305_309.out; have hnc34 := NB309_305.out
                 obtain ⟨hcz35_0, hcz35_1, hfz35_0, hfz35_1⟩ := nK2 BK305.out
                 have p313 : 0 ≤ ((ji30) : Int) := of_decide_eq_true nQ
                 have q313 : (ji30) < (l0_1.length : Int) := of_decide_eq_true nQ
                 obtain ⟨ad313, e313, hx313_0, hx313_1, hx313_2⟩ := at_T43 HR0_1.out (ji30) p313 q313
                 obtain rfl : ad308 = ad313 := (by injection e313)
                 replace hx313_0 := (HB.out.cell (World.block_lt_of_cell? w _ hx313_0)).trans hx313_0
                 replace hx313_1 := (HB.out.cell (World.block_lt_of_cell? w _ hx313_1)).trans hx313_1
                 replace hx313_2 := (HB.out.cell (World.block_lt_of_cell? w _ hx313_2)).trans hx313_2
                 replace p313 := eq_true p313; replace q313 := eq_true q313
                 obtain ⟨hcz36_0, hcz36_1, hcz36_2, hfz36_0, hfz36_1, hfz36_2⟩ := nK3 BK309.out
                 go_wp2
                 repeat (go_quiet (fail); try go_wp2)
                 go_ret
                 exact ⟨by first | rfl | (simp [errW_none, errW_some] <;> rfl) | (simp only [← hji30]; first | rfl | (simp [errW_none, errW_some] <;> rfl)) | (simp [*, errW_none, errW_some] <;> first | rfl | (simp [wrap64]; done)), nH2 HB.out GE305.out GE309.out⟩
               · rw [if_neg c33] at H
                 have c33b0 : decide (((rd_T43 l0_1 x3_2).f1) ≤ ((rd_T43 l0_1 (ji30)).f2)) = false := decide_eq_false c33
                 clear c33
                 by_cases c37 : ((rd_T43 l0_1 (ji30)).f0) = ((rd_T43 l0_1 x3_2).f0)
                 · rw [if_pos c37] at H
                   have c37b0 : (((rd_T43 l0_1 (ji30)).f0) == ((rd_T43 l0_1 x3_2).f0)) = true := beq_iff_eq.mpr c37
                   have c37b1 : (((rd_T43 l0_1 (ji30)).f0) != ((rd_T43 l0_1 x3_2).f0)) = false := bne_eq_false_iff_eq.mpr c37
                   clear c37; obtain rfl := Option.some.inj H; have hnb38 := NB305_309.out; have hnc38 := NB309_305.out
                   obtain ⟨hcz39_0, hcz39_1, hfz39_0, hfz39_1⟩ := nK2 BK305.out
                   have p313 : 0 ≤ ((ji30) : Int) := of_decide_eq_true nQ
                   have q313 : (ji30) < (l0_1.length : Int) := of_decide_eq_true nQ
                   obtain ⟨ad313, e313, hx313_0, hx313_1, hx313_2⟩ := at_T43 HR0_1.out (ji30) p313 q313
                   obtain rfl : ad308 = ad313 := (by injection e313)
                   replace hx313_0 := (HB.out.cell (World.block_lt_of_cell? w _ hx313_0)).trans hx313_0
                   replace hx313_1 := (HB.out.cell (World.block_lt_of_cell? w _ hx313_1)).trans hx313_1
                   replace hx313_2 := (HB.out.cell (World.block_lt_of_cell? w _ hx313_2)).trans hx313_2
                   replace p313 := eq_true p313; replace q313 := eq_true q313
                   obtain ⟨hcz40_0, hcz40_1, hcz40_2, hfz40_0, hfz40_1, hfz40_2⟩ := nK3 BK309.out
                   have p314 : 0 ≤ ((ji30) : Int) := of_decide_eq_true nQ
                   have q314 : (ji30) < (l0_1.length : Int) := of_decide_eq_true nQ
                   obtain ⟨ad314, e314, hx314_0, hx314_1, hx314_2⟩ := at_T43 HR0_1.out (ji30) p314 q314
                   obtain rfl : ad308 = ad314 := (by injection e314)
                   replace hx314_0 := (HB.out.cell (World.block_lt_of_cell? w _ hx314_0)).trans hx314_0
                   replace hx314_1 := (HB.out.cell (World.block_lt_of_cell? w _ hx314_1)).trans hx314_1
                   replace hx314_2 := (HB.out.cell (World.block_lt_of_cell? w _ hx314_2)).trans hx314_2
                   replace p314 := eq_true p314; replace q314 := eq_true q314; go_wp2
                   repeat (go_quiet (fail); try go_wp2)
                   go_ret
                   exact ⟨by first | rfl | (simp [errW_none, errW_some] <;> rfl) | (simp only [← hji30]; first | rfl | (simp [errW_none, errW_some] <;> rfl)) | (simp [*, errW_none, errW_some] <;> first | rfl | (simp [wrap64]; done)), nH2 HB.out GE305.out GE309.out⟩
                 · rw [if_neg c37] at H
                   have c37b0 : (((rd_T43 l0_1 (ji30)).f0) == ((rd_T43 l0_1 x3_2).f0)) = false := beq_eq_false_iff_ne.mpr c37
                   have c37b1 : (((rd_T43 l0_1 (ji30)).f0) != ((rd_T43 l0_1 x3_2).f0)) = true := bne_iff_ne.mpr c37
                   have H' := aM H
                   clear H; have hnb41 := NB305_309.out; have hnc41 := NB309_305.out
                   obtain ⟨hcz42_0, hcz42_1, hfz42_0, hfz42_1⟩ := nK2 BK305.out
                   have p313 : 0 ≤ ((ji30) : Int) := of_decide_eq_true nQ
                   have q313 : (ji30) < (l0_1.length : Int) := of_decide_eq_true nQ
                   obtain ⟨ad313, e313, hx313_0, hx313_1, hx313_2⟩ := at_T43 HR0_1.out (ji30) p313 q313
                   obtain rfl : ad308 = ad313 := (by injection e313)
                   replace hx313_0 := (HB.out.cell (World.block_lt_of_cell? w _ hx313_0)).trans hx313_0
                   replace hx313_1 := (HB.out.cell (World.block_lt_of_cell? w _ hx313_1)).trans hx313_1
                   replace hx313_2 := (HB.out.cell (World.block_lt_of_cell? w _ hx313_2)).trans hx313_2
                   replace p313 := eq_true p313; replace q313 := eq_true q313
                   obtain ⟨hcz43_0, hcz43_1, hcz43_2, hfz43_0, hfz43_1, hfz43_2⟩ := nK3 BK309.out
                   have p314 : 0 ≤ ((ji30) : Int) := of_decide_eq_true nQ
                   have q314 : (ji30) < (l0_1.length : Int) := of_decide_eq_true nQ
                   obtain ⟨ad314, e314, hx314_0, hx314_1, hx314_2⟩ := at_T43 HR0_1.out (ji30) p314 q314
                   obtain rfl : ad308 = ad314 := (by injection e314)
                   replace hx314_0 := (HB.out.cell (World.block_lt_of_cell? w _ hx314_0)).trans hx314_0
                   replace hx314_1 := (HB.out.cell (World.block_lt_of_cell? w _ hx314_1)).trans hx314_1
                   replace hx314_2 := (HB.out.cell (World.block_lt_of_cell? w _ hx314_2)).trans hx314_2
                   replace p314 := eq_true p314; replace q314 := eq_true q314; go_wp2
                   repeat (go_quiet (fail); try go_wp2)
                   go_roundg kj11
                   case measure => have := HJ1.out; have := HK2.out; have := HJ11.out; omega
                   case rel => exact ⟨(wrap64 (x3_2 + 1)), nS, H', ⟨by have := HJ1.out; have := HK2.out; have := HJ11.out; omega⟩, ⟨by exact nB BK305.out⟩, ⟨nH2 HB.out GE305.out GE309.out⟩⟩
             · rw [if_neg c29] at H
               have c29b0 : decide (0 < x3_2) = false := decide_eq_false c29
               clear c29
               have H' := aM H
               clear H; go_wp2
               repeat (go_quiet (fail); try go_wp2)
               go_roundg kj11
               case measure => have := HJ1.out; have := HK2.out; have := HJ11.out; omega
               case rel => exact ⟨(wrap64 (x3_2 + 1)), nS, H', ⟨by have := HJ1.out; have := HK2.out; have := HJ11.out; omega⟩, ⟨by exact nB BK305.out⟩, ⟨nH2 HB.out GE305.out GE309.out⟩⟩
       · rw [if_neg c10] at H
         have c10b0 : decide (x3_2 < (l0_1.length : Int)) = false := decide_eq_false c10
         clear c10; obtain rfl := Option.some.inj H
         obtain ⟨hcz44_0, hcz44_1, hfz44_0, hfz44_1⟩ := nK2 BK305.out
         go_wp2
         repeat (go_quiet (fail); try go_wp2)
         go_ret
         exact ⟨by first | rfl | (simp [errW_none, errW_some] <;> rfl) | (simp [*, errW_none, errW_some] <;> first | rfl | (simp [wrap64]; done)), nH1 HB.out GE305.out⟩
end Go.Proofs.YtdpjoblnjjkbfaaDoor.P

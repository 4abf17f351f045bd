/- Contracts of the functions of the program, each one with its plain Lean function; written by a program of the session out of the translation. -/
import Derived.Test.YtdpjoblnjjkbfaaNb
import Derived.Test.YtdpjoblnjjkbfaaPx0
import Derived.Test.YtdpjoblnjjkbfaaPx19
import Derived.Test.YtdpjoblnjjkbfaaPx20
namespace Go.Proofs.Ytdpjoblnjjkbfaa.P
open Go.RowKit Go.Proofs.YtdpjoblnjjkbfaaW.PrintWords Go.Proofs.YtdpjoblnjjkbfaaW.PrintLast Go.Proofs.YtdpjoblnjjkbfaaW.PrintMore
attribute [local go_sem] max2_int min2_int max_two min_two max_three min_three max_four min_four   -- for this text's walks alone
set_option linter.unusedVariables false
set_option linter.unusedSimpArgs false
/-! ### impl_TripOk: function 70 -/
theorem impl_TripOk.mono_l : ∀ k, (∀ y0 y1 y2, LeO (impl_TripOk.j0 k y0 y1 y2) (impl_TripOk.j0 (k + 1) y0 y1 y2)) ∧ (∀ y0 y1 y2 y3 y4, LeO (impl_TripOk.l0 k y0 y1 y2 y3 y4) (impl_TripOk.l0 (k + 1) y0 y1 y2 y3 y4)) ∧ (∀ y0 y1 y2 y3 y4 y5 y6 y7 y8 y9, LeO (impl_TripOk.j2 k y0 y1 y2 y3 y4 y5 y6 y7 y8 y9) (impl_TripOk.j2 (k + 1) y0 y1 y2 y3 y4 y5 y6 y7 y8 y9))
 | 0 => ⟨fun _ _ _ r h => by simp [impl_TripOk.j0] at h, fun _ _ _ _ _ r h => by simp [impl_TripOk.l0] at h, fun _ _ _ _ _ _ _ _ _ _ r h => by simp [impl_TripOk.j2] at h⟩
 | k + 1 => by
  obtain ⟨ih0, ih1, ih2⟩ := impl_TripOk.mono_l k
  refine ⟨?_, ?_, ?_⟩
  · intro y0 y1 y2
    unfold impl_TripOk.j0
    repeat' first
    | (with_reducible exact ih0 _ _ _)
    | (with_reducible exact ih1 _ _ _ _ _)
    | (with_reducible exact ih2 _ _ _ _ _ _ _ _ _ _)
    | (with_reducible exact impl_nameOk.mono _ _)
    | (with_reducible exact LeO.refl _)
    | (with_reducible exact LeO.none _)
    | (with_reducible refine LeO.ite ?_ ?_)
    | (with_reducible refine LeO.bind ?_ (fun _ => ?_))
    | exact ih0 _ _ _
    | exact ih1 _ _ _ _ _
    | exact ih2 _ _ _ _ _ _ _ _ _ _
    | exact impl_nameOk.mono _ _
    | exact LeO.none _
    | refine LeO.ite ?_ ?_
    | refine LeO.bind ?_ (fun _ => ?_)
  · intro y0 y1 y2 y3 y4
    unfold impl_TripOk.l0
    repeat' first
    | (with_reducible exact ih0 _ _ _)
    | (with_reducible exact ih1 _ _ _ _ _)
    | (with_reducible exact ih2 _ _ _ _ _ _ _ _ _ _)
    | (with_reducible exact impl_nameOk.mono _ _)
    | (with_reducible exact LeO.refl _)
    | (with_reducible exact LeO.none _)
    | (with_reducible refine LeO.ite ?_ ?_)
    | (with_reducible refine LeO.bind ?_ (fun _ => ?_))
    | exact ih0 _ _ _
    | exact ih1 _ _ _ _ _
    | exact ih2 _ _ _ _ _ _ _ _ _ _
    | exact impl_nameOk.mono _ _
    | exact LeO.none _
    | refine LeO.ite ?_ ?_
    | refine LeO.bind ?_ (fun _ => ?_)
  · intro y0 y1 y2 y3 y4 y5 y6 y7 y8 y9
    unfold impl_TripOk.j2
    repeat' first
    | (with_reducible exact ih0 _ _ _)
    | (with_reducible exact ih1 _ _ _ _ _)
    | (with_reducible exact ih2 _ _ _ _ _ _ _ _ _ _)
    | (with_reducible exact impl_nameOk.mono _ _)
    | (with_reducible exact LeO.refl _)
    | (with_reducible exact LeO.none _)
    | (with_reducible refine LeO.ite ?_ ?_)
    | (with_reducible refine LeO.bind ?_ (fun _ => ?_))
    | exact ih0 _ _ _
    | exact ih1 _ _ _ _ _
    | exact ih2 _ _ _ _ _ _ _ _ _ _
    | exact impl_nameOk.mono _ _
    | exact LeO.none _
    | refine LeO.ite ?_ ?_
    | refine LeO.bind ?_ (fun _ => ?_)
theorem impl_TripOk.mono : ∀ a0 a1 k, LeO (impl_TripOk.f k a0 a1) (impl_TripOk.f (k + 1) a0 a1) := by
 intro a0 a1 k
 obtain ⟨ih0, ih1, ih2⟩ := impl_TripOk.mono_l k
 unfold impl_TripOk.f
 repeat' first
  | (with_reducible exact ih0 _ _ _)
  | (with_reducible exact ih1 _ _ _ _ _)
  | (with_reducible exact ih2 _ _ _ _ _ _ _ _ _ _)
  | (with_reducible exact impl_nameOk.mono _ _)
  | (with_reducible exact LeO.refl _)
  | (with_reducible exact LeO.none _)
  | (with_reducible refine LeO.ite ?_ ?_)
  | (with_reducible refine LeO.bind ?_ (fun _ => ?_))
  | exact ih0 _ _ _
  | exact ih1 _ _ _ _ _
  | exact ih2 _ _ _ _ _ _ _ _ _ _
  | exact impl_nameOk.mono _ _
  | exact LeO.none _
  | refine LeO.ite ?_ ?_
  | refine LeO.bind ?_ (fun _ => ?_)
set_option maxHeartbeats 8000000 in
set_option maxRecDepth 100000 in
theorem impl_TripOk.calls (k : Nat) (a0_0 : ByteArray) (A0_1 : Option Addr) (c0_1 : Nat) (l0_1 : List (S67)) (r : Bool) (w : World) (hr0_1 : Kd.C k67 w A0_1 l0_1.length l0_1) (hc0_1 : l0_1.length ≤ c0_1) (h : impl_TripOk.f k a0_0 l0_1 = some r) :
 Calls Try.prog 70 #[.agg #[.string a0_0, .slice A0_1 l0_1.length c0_1]] w fun e w' => e = .returned (.bool r) ∧ Below w.heap.size w w' := by
 have hu51 := Try.underlying51; have hu67 := Try.underlying67
 have HR0_1 := Aside0.mk hr0_1
 have HC0_1 := Aside0.mk hc0_1
 clear hr0_1 hc0_1
 have HB := Aside0.mk (Below.refl w.heap.size w)
 have H : ((impl_nameOk.f k a0_0).bind fun t236 => (if t236 = true then ((impl_between.f (l0_1.length : Int) 2 12).bind fun t237 => (impl_TripOk.j0 k (!t237) a0_0 l0_1)) else (impl_TripOk.j0 k true a0_0 l0_1))) = some r := h
 clear h
 have HC2 := Aside0.mk H
 clear H
 go_enter Try.func70, Try.ntmps70
 go_upto_region 1 with (first | ((with_reducible refine gate_dst (N := 1) rfl ?_); (try (refine gate_guard (by rfl) ?_; dsimp only)); refine box_event ?hg (N := 1) ?hd (cs := #[.string a0_0, .slice A0_1 l0_1.length c0_1]) (t := 51) ?hr ?_; (case hd => rfl); (case hg => rfl); (case hr => first | (go_simp; done) | (go_simp; rfl)); intro gb235 hg w3 hbox hb; have n0_ := Aside0.mk (below_step (nH HB.out) hb); have n1_ := Aside0.mk (hbox); have n2_ := Aside0.mk ((by rw [hg]; exact (below_size (nH HB.out)) : w.heap.size ≤ gb235)); have n3_ := Aside0.mk ((by rw [hg]; exact (below_size (nH HB.out)) : w.heap.size ≤ gb235)); clear HB; have HB := n0_; have BK235 := n1_; have GW235 := n2_; have GE235 := n3_; clear n0_ n1_ n2_ n3_; clear hb hbox hg))
 repeat (go_quiet (first | ((with_reducible refine gate_dst (N := 1) rfl ?_); (try (refine gate_guard (by rfl) ?_; dsimp only)); refine box_event ?hg (N := 1) ?hd (cs := #[.string a0_0, .slice A0_1 l0_1.length c0_1]) (t := 51) ?hr ?_; (case hd => rfl); (case hg => rfl); (case hr => first | (go_simp; done) | (go_simp; rfl)); intro gb235 hg w3 hbox hb; have n0_ := Aside0.mk (below_step (nH HB.out) hb); have n1_ := Aside0.mk (hbox); have n2_ := Aside0.mk ((by rw [hg]; exact (below_size (nH HB.out)) : w.heap.size ≤ gb235)); have n3_ := Aside0.mk ((by rw [hg]; exact (below_size (nH HB.out)) : w.heap.size ≤ gb235)); clear HB; have HB := n0_; have BK235 := n1_; have GW235 := n2_; have GE235 := n3_; clear n0_ n1_ n2_ n3_; clear hb hbox hg)); go_upto_region 1 with (first | ((with_reducible refine gate_dst (N := 1) rfl ?_); (try (refine gate_guard (by rfl) ?_; dsimp only)); refine box_event ?hg (N := 1) ?hd (cs := #[.string a0_0, .slice A0_1 l0_1.length c0_1]) (t := 51) ?hr ?_; (case hd => rfl); (case hg => rfl); (case hr => first | (go_simp; done) | (go_simp; rfl)); intro gb235 hg w3 hbox hb; have n0_ := Aside0.mk (below_step (nH HB.out) hb); have n1_ := Aside0.mk (hbox); have n2_ := Aside0.mk ((by rw [hg]; exact (below_size (nH HB.out)) : w.heap.size ≤ gb235)); have n3_ := Aside0.mk ((by rw [hg]; exact (below_size (nH HB.out)) : w.heap.size ≤ gb235)); clear HB; have HB := n0_; have BK235 := n1_; have GW235 := n2_; have GE235 := n3_; clear n0_ n1_ n2_ n3_; clear hb hbox hg)))
 (try simp only [Act.put, List.setIfInBounds_toArray, List.set_cons_zero, List.set_cons_succ])
 go_cut [15] (fun v15 wc => ∃ (kq : Nat) (x15_1 : Bool), v15 = .bool x15_1 ∧ Aside0 (impl_TripOk.j0 kq x15_1 a0_0 l0_1 = some r) ∧ Aside0 (kq ≤ k) ∧ Aside0 (wc.heap[gb235]? = some (.cells #[.string a0_0, (.slice A0_1 l0_1.length c0_1)] 51 (0, 0))) ∧ Aside0 (Below w.heap.size w wc))
 case first =>
  have H := HC2.out; clear HC2
  replace H := Option.bind_eq_some_iff.mp H
  obtain ⟨t236, A40, H⟩ := H
  replace H : (if t236 = true then ((impl_between.f (l0_1.length : Int) 2 12).bind fun t237 => (impl_TripOk.j0 k (!t237) a0_0 l0_1)) else (impl_TripOk.j0 k true a0_0 l0_1)) = some r := H
  have A4 := Aside0.mk A40
  clear A40
  by_cases c5 : t236 = true
  · subst c5
    have H1 : ((impl_between.f (l0_1.length : Int) 2 12).bind fun t237 => (impl_TripOk.j0 k (!t237) a0_0 l0_1)) = some r := by rw [if_pos rfl] at H; exact H
    clear H; have H := H1; clear H1
    replace H := Option.bind_eq_some_iff.mp H
    obtain ⟨t237, A60, H⟩ := H
    replace H : (impl_TripOk.j0 k (!t237) a0_0 l0_1) = some r := H
    have A6 := Aside0.mk A60
    clear A60
    have H' := Aside0.mk H
    clear H
    have hcz7_0 : w3.cell? ⟨gb235, 0, none⟩ = some (.string a0_0) := (blk_cell BK235.out 0).trans rfl
    have hcz7_1 : w3.cell? ⟨gb235, 1, none⟩ = some (.slice A0_1 l0_1.length c0_1) := (blk_cell BK235.out 1).trans rfl
    have hfz7_0 := blk_frozen BK235.out 0
    have hfz7_1 := blk_frozen BK235.out 1
    go_wp2_with (first | (go_at_call 77; (with_reducible refine (impl_nameOk.calls k a0_0 true _ A4.out).mono ?_); rintro e w' ⟨rfl, ⟨nd, rfl⟩⟩; (try first | exact ⟨rfl, _, World.drewN_drewN _ _ _⟩ | exact ⟨rfl, _, Eq.trans (World.drewN_drewN _ _ _) (congrArg (World.drewN _) (Nat.add_assoc _ _ _))⟩)) | (go_at_call 61; (with_reducible refine (impl_between.calls (l0_1.length : Int) 2 12 t237 _ A6.out).mono ?_); rintro e w' ⟨rfl, ⟨nd, rfl⟩⟩; (try first | exact ⟨rfl, _, World.drewN_drewN _ _ _⟩ | exact ⟨rfl, _, Eq.trans (World.drewN_drewN _ _ _) (congrArg (World.drewN _) (Nat.add_assoc _ _ _))⟩)))
    repeat (go_quiet (first | (go_at_call 77; (with_reducible refine (impl_nameOk.calls k a0_0 true _ A4.out).mono ?_); rintro e w' ⟨rfl, ⟨nd, rfl⟩⟩; (try first | exact ⟨rfl, _, World.drewN_drewN _ _ _⟩ | exact ⟨rfl, _, Eq.trans (World.drewN_drewN _ _ _) (congrArg (World.drewN _) (Nat.add_assoc _ _ _))⟩)) | (go_at_call 61; (with_reducible refine (impl_between.calls (l0_1.length : Int) 2 12 t237 _ A6.out).mono ?_); rintro e w' ⟨rfl, ⟨nd, rfl⟩⟩; (try first | exact ⟨rfl, _, World.drewN_drewN _ _ _⟩ | exact ⟨rfl, _, Eq.trans (World.drewN_drewN _ _ _) (congrArg (World.drewN _) (Nat.add_assoc _ _ _))⟩))); try go_wp2_with (first | (go_at_call 77; (with_reducible refine (impl_nameOk.calls k a0_0 true _ A4.out).mono ?_); rintro e w' ⟨rfl, ⟨nd, rfl⟩⟩; (try first | exact ⟨rfl, _, World.drewN_drewN _ _ _⟩ | exact ⟨rfl, _, Eq.trans (World.drewN_drewN _ _ _) (congrArg (World.drewN _) (Nat.add_assoc _ _ _))⟩)) | (go_at_call 61; (with_reducible refine (impl_between.calls (l0_1.length : Int) 2 12 t237 _ A6.out).mono ?_); rintro e w' ⟨rfl, ⟨nd, rfl⟩⟩; (try first | exact ⟨rfl, _, World.drewN_drewN _ _ _⟩ | exact ⟨rfl, _, Eq.trans (World.drewN_drewN _ _ _) (congrArg (World.drewN _) (Nat.add_assoc _ _ _))⟩))))
    go_meet
    case rel => exact ⟨_, (!t237), nS, H', ⟨by first | omega | exact Nat.le_refl _⟩, ⟨by (with_reducible repeat (first | refine blk_drewN ?_ _ | refine blk_drew ?_ | refine blk_alloc ?_ _)); exact BK235.out⟩, ⟨nH1 HB.out GE235.out⟩⟩
  · replace c5 := Bool.eq_false_iff.mpr c5
    subst c5
    have H1 : (impl_TripOk.j0 k true a0_0 l0_1) = some r := by rw [if_neg (show ¬ (false = true) by decide)] at H; exact H
    clear H; have H := H1; clear H1
    have H' := Aside0.mk H
    clear H
    have hcz8_0 : w3.cell? ⟨gb235, 0, none⟩ = some (.string a0_0) := (blk_cell BK235.out 0).trans rfl
    have hcz8_1 : w3.cell? ⟨gb235, 1, none⟩ = some (.slice A0_1 l0_1.length c0_1) := (blk_cell BK235.out 1).trans rfl
    have hfz8_0 := blk_frozen BK235.out 0
    have hfz8_1 := blk_frozen BK235.out 1
    go_wp2_with (first | (go_at_call 77; (with_reducible refine (impl_nameOk.calls k a0_0 false _ A4.out).mono ?_); rintro e w' ⟨rfl, ⟨nd, rfl⟩⟩; (try first | exact ⟨rfl, _, World.drewN_drewN _ _ _⟩ | exact ⟨rfl, _, Eq.trans (World.drewN_drewN _ _ _) (congrArg (World.drewN _) (Nat.add_assoc _ _ _))⟩)))
    repeat (go_quiet (first | (go_at_call 77; (with_reducible refine (impl_nameOk.calls k a0_0 false _ A4.out).mono ?_); rintro e w' ⟨rfl, ⟨nd, rfl⟩⟩; (try first | exact ⟨rfl, _, World.drewN_drewN _ _ _⟩ | exact ⟨rfl, _, Eq.trans (World.drewN_drewN _ _ _) (congrArg (World.drewN _) (Nat.add_assoc _ _ _))⟩))); try go_wp2_with (first | (go_at_call 77; (with_reducible refine (impl_nameOk.calls k a0_0 false _ A4.out).mono ?_); rintro e w' ⟨rfl, ⟨nd, rfl⟩⟩; (try first | exact ⟨rfl, _, World.drewN_drewN _ _ _⟩ | exact ⟨rfl, _, Eq.trans (World.drewN_drewN _ _ _) (congrArg (World.drewN _) (Nat.add_assoc _ _ _))⟩))))
    go_meet
    case rel => exact ⟨_, (true), nS, H', ⟨by first | omega | exact Nat.le_refl _⟩, ⟨by (with_reducible repeat (first | refine blk_drewN ?_ _ | refine blk_drew ?_ | refine blk_alloc ?_ _)); exact BK235.out⟩, ⟨nH1 HB.out GE235.out⟩⟩
 case rest =>
  clear HC2; try clear p2; try clear c5; try clear c7; try clear hcz7_0; try clear hcz7_1; try clear hcz8_0; try clear hcz8_1; try clear hfz7_0; try clear hfz7_1; try clear hfz8_0; try clear hfz8_1
  obtain ⟨kq, x15_1, rfl, HA, HJ1, BK235, HB⟩ := hcut
  cases kq with
  | zero => exact absurd HA.out (by simp [impl_TripOk.j0])
  | succ kj1 =>
   have H := HA.out; clear HA
   simp only [impl_TripOk.j0] at H
   by_cases c9 : x15_1 = true
   · subst c9
     have H1 : (some false) = some r := by rw [if_pos rfl] at H; exact H
     clear H; have H := H1; clear H1; obtain rfl := Option.some.inj H; go_wp2
     repeat (go_quiet (fail); try go_wp2)
     go_ret
     exact ⟨by first | rfl | (simp [errW_none, errW_some] <;> rfl) | (simp [*, errW_none, errW_some] <;> first | rfl | (simp [wrap64]; done)), nH1 HB.out GE235.out⟩
   · replace c9 := Bool.eq_false_iff.mpr c9
     subst c9
     have H1 : (impl_TripOk.l0 kj1 l0_1 (l0_1.length : Int) 0 a0_0 l0_1) = some r := by rw [if_neg (show ¬ (false = true) by decide)] at H; exact H
     clear H; have H := H1; clear H1
     have H' := Aside0.mk H
     clear H
     have hcz10_0 : wc.cell? ⟨gb235, 0, none⟩ = some (.string a0_0) := (blk_cell BK235.out 0).trans rfl
     have hcz10_1 : wc.cell? ⟨gb235, 1, none⟩ = some (.slice A0_1 l0_1.length c0_1) := (blk_cell BK235.out 1).trans rfl
     have hfz10_0 := blk_frozen BK235.out 0
     have hfz10_1 := blk_frozen BK235.out 1
     go_wp2
     repeat (go_quiet (fail); try go_wp2)
     go_loopg [19] kj1 (fun kq v19 w' => ∃ (x19_2 : Int), v19 = .int .i64 x19_2 ∧ Aside0 (impl_TripOk.l0 kq l0_1 (l0_1.length : Int) x19_2 a0_0 l0_1 = some r) ∧ Aside0 (kq ≤ kj1) ∧ Aside0 (w'.heap[gb235]? = some (.cells #[.string a0_0, (.slice A0_1 l0_1.length c0_1)] 51 (0, 0))) ∧ Aside0 (Below w.heap.size w w'))
     case atStart => exact ⟨(0), nS, H', ⟨Nat.le_refl _⟩, ⟨by (with_reducible repeat (first | refine blk_drewN ?_ _ | refine blk_drew ?_ | refine blk_alloc ?_ _)); exact BK235.out⟩, ⟨nH1 HB.out GE235.out⟩⟩
     case round =>
      clear H'
      try clear p2; try clear c5; try clear p6; try clear c7; try clear c9; try clear hcz10_0; try clear hcz10_1; try clear hcz7_0; try clear hcz7_1; try clear hcz8_0; try clear hcz8_1; try clear hfz10_0; try clear hfz10_1; try clear hfz7_0; try clear hfz7_1; try clear hfz8_0; try clear hfz8_1; try clear p2
      obtain ⟨x19_2, rfl, HA, HK2, BK235, HB⟩ := hrel
      cases gk with
      | zero => exact absurd HA.out (by simp [impl_TripOk.l0])
      | succ k2 =>
       have H := HA.out; clear HA
       simp only [impl_TripOk.l0] at H
       by_cases c11 : x19_2 < (l0_1.length : Int)
       · rw [if_pos c11] at H
         have c11b0 : decide (x19_2 < (l0_1.length : Int)) = true := decide_eq_true c11
         clear c11
         by_cases c12 : 0 ≤ x19_2
         rotate_left
         · (rw [if_neg c12] at H; exact absurd H (by simp))
         rw [if_pos c12] at H
         have c12b0 : decide (0 ≤ x19_2) = true := decide_eq_true c12
         clear c12
         by_cases c13 : x19_2 < (l0_1.length : Int)
         rotate_left
         · (rw [if_neg c13] at H; exact absurd H (by simp))
         rw [if_pos c13] at H
         have c13b0 : decide (x19_2 < (l0_1.length : Int)) = true := decide_eq_true c13
         clear c13
         have HC14 := Aside0.mk H
         clear H
         have p238 : 0 ≤ (x19_2 : Int) := of_decide_eq_true nQ
         have q238 : x19_2 < (l0_1.length : Int) := of_decide_eq_true nQ
         obtain ⟨ad238, e238, hx238_0, hx238_1, hx238_2⟩ := at_T67 HR0_1.out x19_2 p238 q238
         cases e238
         replace hx238_0 := (HB.out.cell (World.block_lt_of_cell? w _ hx238_0)).trans hx238_0
         replace hx238_1 := (HB.out.cell (World.block_lt_of_cell? w _ hx238_1)).trans hx238_1
         replace hx238_2 := (HB.out.cell (World.block_lt_of_cell? w _ hx238_2)).trans hx238_2
         replace p238 := eq_true p238; replace q238 := eq_true q238
         go_upto_region 6 with (first | ((with_reducible refine gate_dst (N := 4) rfl ?_); (try (refine gate_guard (by rfl) ?_; dsimp only)); refine box_event ?hg (N := 4) ?hd (cs := #[.int .i64 0, .int .i64 0, .int .i64 0]) (t := 67) ?hr ?_; (case hd => rfl); (case hg => rfl); (case hr => first | (go_simp; done) | (go_simp; rfl)); intro gb239 hg w15 hbox hb; have n0_ := Aside0.mk (blk_below (g := gb235) (o := .cells #[.string a0_0, .slice (some ad238) l0_1.length c0_1] 51 (0, 0)) (nB BK235.out) hb); have n1_ := Aside0.mk (below_step (nH1 HB.out GE235.out) hb); have n2_ := Aside0.mk (hbox); have n3_ := Aside0.mk ((by rw [hg]; exact (below_size (nH1 HB.out GE235.out)) : w.heap.size ≤ gb239)); have n4_ := Aside0.mk ((by rw [hg]; exact (below_size (nH1 HB.out GE235.out)) : w.heap.size ≤ gb239)); have n5_ := Aside0.mk ((by rw [hg]; exact Nat.ne_of_lt (blk_lt (g := gb235) (o := .cells #[.string a0_0, .slice (some ad238) l0_1.length c0_1] 51 (0, 0)) (nB BK235.out)) : gb235 ≠ gb239)); have n6_ := Aside0.mk ((by rw [hg]; exact Nat.ne_of_gt (blk_lt (g := gb235) (o := .cells #[.string a0_0, .slice (some ad238) l0_1.length c0_1] 51 (0, 0)) (nB BK235.out)) : gb239 ≠ gb235)); clear BK235; clear HB; have BK235 := n0_; have HB := n1_; have BK239 := n2_; have GW239 := n3_; have GE239 := n4_; have NB235_239 := n5_; have NB239_235 := n6_; clear n0_ n1_ n2_ n3_ n4_ n5_ n6_; clear hb hbox hg; have hnb16 := NB239_235.out; have hnc16 := NB235_239.out; have hcz17_0 : w15.cell? ⟨gb239, 0, none⟩ = some (.int .i64 0) := (blk_cell BK239.out 0).trans rfl; have hcz17_1 : w15.cell? ⟨gb239, 1, none⟩ = some (.int .i64 0) := (blk_cell BK239.out 1).trans rfl; have hcz17_2 : w15.cell? ⟨gb239, 2, none⟩ = some (.int .i64 0) := (blk_cell BK239.out 2).trans rfl; have hfz17_0 := blk_frozen BK239.out 0; have hfz17_1 := blk_frozen BK239.out 1; have hfz17_2 := blk_frozen BK239.out 2))
         repeat (go_quiet (first | ((with_reducible refine gate_dst (N := 4) rfl ?_); (try (refine gate_guard (by rfl) ?_; dsimp only)); refine box_event ?hg (N := 4) ?hd (cs := #[.int .i64 0, .int .i64 0, .int .i64 0]) (t := 67) ?hr ?_; (case hd => rfl); (case hg => rfl); (case hr => first | (go_simp; done) | (go_simp; rfl)); intro gb239 hg w15 hbox hb; have n0_ := Aside0.mk (blk_below (g := gb235) (o := .cells #[.string a0_0, .slice (some ad238) l0_1.length c0_1] 51 (0, 0)) (nB BK235.out) hb); have n1_ := Aside0.mk (below_step (nH1 HB.out GE235.out) hb); have n2_ := Aside0.mk (hbox); have n3_ := Aside0.mk ((by rw [hg]; exact (below_size (nH1 HB.out GE235.out)) : w.heap.size ≤ gb239)); have n4_ := Aside0.mk ((by rw [hg]; exact (below_size (nH1 HB.out GE235.out)) : w.heap.size ≤ gb239)); have n5_ := Aside0.mk ((by rw [hg]; exact Nat.ne_of_lt (blk_lt (g := gb235) (o := .cells #[.string a0_0, .slice (some ad238) l0_1.length c0_1] 51 (0, 0)) (nB BK235.out)) : gb235 ≠ gb239)); have n6_ := Aside0.mk ((by rw [hg]; exact Nat.ne_of_gt (blk_lt (g := gb235) (o := .cells #[.string a0_0, .slice (some ad238) l0_1.length c0_1] 51 (0, 0)) (nB BK235.out)) : gb239 ≠ gb235)); clear BK235; clear HB; have BK235 := n0_; have HB := n1_; have BK239 := n2_; have GW239 := n3_; have GE239 := n4_; have NB235_239 := n5_; have NB239_235 := n6_; clear n0_ n1_ n2_ n3_ n4_ n5_ n6_; clear hb hbox hg; have hnb16 := NB239_235.out; have hnc16 := NB235_239.out; have hcz17_0 : w15.cell? ⟨gb239, 0, none⟩ = some (.int .i64 0) := (blk_cell BK239.out 0).trans rfl; have hcz17_1 : w15.cell? ⟨gb239, 1, none⟩ = some (.int .i64 0) := (blk_cell BK239.out 1).trans rfl; have hcz17_2 : w15.cell? ⟨gb239, 2, none⟩ = some (.int .i64 0) := (blk_cell BK239.out 2).trans rfl; have hfz17_0 := blk_frozen BK239.out 0; have hfz17_1 := blk_frozen BK239.out 1; have hfz17_2 := blk_frozen BK239.out 2)); go_upto_region 6 with (first | ((with_reducible refine gate_dst (N := 4) rfl ?_); (try (refine gate_guard (by rfl) ?_; dsimp only)); refine box_event ?hg (N := 4) ?hd (cs := #[.int .i64 0, .int .i64 0, .int .i64 0]) (t := 67) ?hr ?_; (case hd => rfl); (case hg => rfl); (case hr => first | (go_simp; done) | (go_simp; rfl)); intro gb239 hg w15 hbox hb; have n0_ := Aside0.mk (blk_below (g := gb235) (o := .cells #[.string a0_0, .slice (some ad238) l0_1.length c0_1] 51 (0, 0)) (nB BK235.out) hb); have n1_ := Aside0.mk (below_step (nH1 HB.out GE235.out) hb); have n2_ := Aside0.mk (hbox); have n3_ := Aside0.mk ((by rw [hg]; exact (below_size (nH1 HB.out GE235.out)) : w.heap.size ≤ gb239)); have n4_ := Aside0.mk ((by rw [hg]; exact (below_size (nH1 HB.out GE235.out)) : w.heap.size ≤ gb239)); have n5_ := Aside0.mk ((by rw [hg]; exact Nat.ne_of_lt (blk_lt (g := gb235) (o := .cells #[.string a0_0, .slice (some ad238) l0_1.length c0_1] 51 (0, 0)) (nB BK235.out)) : gb235 ≠ gb239)); have n6_ := Aside0.mk ((by rw [hg]; exact Nat.ne_of_gt (blk_lt (g := gb235) (o := .cells #[.string a0_0, .slice (some ad238) l0_1.length c0_1] 51 (0, 0)) (nB BK235.out)) : gb239 ≠ gb235)); clear BK235; clear HB; have BK235 := n0_; have HB := n1_; have BK239 := n2_; have GW239 := n3_; have GE239 := n4_; have NB235_239 := n5_; have NB239_235 := n6_; clear n0_ n1_ n2_ n3_ n4_ n5_ n6_; clear hb hbox hg; have hnb16 := NB239_235.out; have hnc16 := NB235_239.out; have hcz17_0 : w15.cell? ⟨gb239, 0, none⟩ = some (.int .i64 0) := (blk_cell BK239.out 0).trans rfl; have hcz17_1 : w15.cell? ⟨gb239, 1, none⟩ = some (.int .i64 0) := (blk_cell BK239.out 1).trans rfl; have hcz17_2 : w15.cell? ⟨gb239, 2, none⟩ = some (.int .i64 0) := (blk_cell BK239.out 2).trans rfl; have hfz17_0 := blk_frozen BK239.out 0; have hfz17_1 := blk_frozen BK239.out 1; have hfz17_2 := blk_frozen BK239.out 2)))
         (try simp only [Act.put, List.setIfInBounds_toArray, List.set_cons_zero, List.set_cons_succ])
         go_cut [46] (fun v46 wc => ∃ (kq : Nat) (x46_13 : Bool), v46 = .bool x46_13 ∧ Aside0 (impl_TripOk.j2 kq x19_2 l0_1 (l0_1.length : Int) x19_2 x46_13 a0_0 l0_1 ((rd_T67 l0_1 x19_2).f0) ((rd_T67 l0_1 x19_2).f1) ((rd_T67 l0_1 x19_2).f2) = some r) ∧ Aside0 (kq ≤ k2) ∧ Aside0 (wc.heap[gb235]? = some (.cells #[.string a0_0, (.slice (some ad238) l0_1.length c0_1)] 51 (0, 0))) ∧ Aside0 (wc.heap[gb239]? = some (.cells #[.int .i64 ((rd_T67 l0_1 x19_2).f0), .int .i64 ((rd_T67 l0_1 x19_2).f1), .int .i64 ((rd_T67 l0_1 x19_2).f2)] 67 (0, 0))) ∧ Aside0 (Below w.heap.size w wc))
         case first =>
          have H := HC14.out; clear HC14
          replace H := Option.bind_eq_some_iff.mp H
          obtain ⟨t240, A180, H⟩ := H
          replace H : (if t240 = true then ((impl_isMinute.f ((rd_T67 l0_1 x19_2).f1)).bind fun t241 => (if t241 = true then ((impl_isMinute.f ((rd_T67 l0_1 x19_2).f2)).bind fun t242 => (if t242 = true then (impl_TripOk.j2 k2 x19_2 l0_1 (l0_1.length : Int) x19_2 (decide (((rd_T67 l0_1 x19_2).f1) > ((rd_T67 l0_1 x19_2).f2))) a0_0 l0_1 ((rd_T67 l0_1 x19_2).f0) ((rd_T67 l0_1 x19_2).f1) ((rd_T67 l0_1 x19_2).f2)) else (impl_TripOk.j2 k2 x19_2 l0_1 (l0_1.length : Int) x19_2 true a0_0 l0_1 ((rd_T67 l0_1 x19_2).f0) ((rd_T67 l0_1 x19_2).f1) ((rd_T67 l0_1 x19_2).f2)))) else (impl_TripOk.j2 k2 x19_2 l0_1 (l0_1.length : Int) x19_2 true a0_0 l0_1 ((rd_T67 l0_1 x19_2).f0) ((rd_T67 l0_1 x19_2).f1) ((rd_T67 l0_1 x19_2).f2)))) else (impl_TripOk.j2 k2 x19_2 l0_1 (l0_1.length : Int) x19_2 true a0_0 l0_1 ((rd_T67 l0_1 x19_2).f0) ((rd_T67 l0_1 x19_2).f1) ((rd_T67 l0_1 x19_2).f2))) = some r := H
          have A18 := Aside0.mk A180
          clear A180
          by_cases c19 : t240 = true
          · subst c19
            have H1 : ((impl_isMinute.f ((rd_T67 l0_1 x19_2).f1)).bind fun t241 => (if t241 = true then ((impl_isMinute.f ((rd_T67 l0_1 x19_2).f2)).bind fun t242 => (if t242 = true then (impl_TripOk.j2 k2 x19_2 l0_1 (l0_1.length : Int) x19_2 (decide (((rd_T67 l0_1 x19_2).f1) > ((rd_T67 l0_1 x19_2).f2))) a0_0 l0_1 ((rd_T67 l0_1 x19_2).f0) ((rd_T67 l0_1 x19_2).f1) ((rd_T67 l0_1 x19_2).f2)) else (impl_TripOk.j2 k2 x19_2 l0_1 (l0_1.length : Int) x19_2 true a0_0 l0_1 ((rd_T67 l0_1 x19_2).f0) ((rd_T67 l0_1 x19_2).f1) ((rd_T67 l0_1 x19_2).f2)))) else (impl_TripOk.j2 k2 x19_2 l0_1 (l0_1.length : Int) x19_2 true a0_0 l0_1 ((rd_T67 l0_1 x19_2).f0) ((rd_T67 l0_1 x19_2).f1) ((rd_T67 l0_1 x19_2).f2)))) = some r := by rw [if_pos rfl] at H; exact H
            clear H; have H := H1; clear H1
            replace H := Option.bind_eq_some_iff.mp H
            obtain ⟨t241, A200, H⟩ := H
            replace H : (if t241 = true then ((impl_isMinute.f ((rd_T67 l0_1 x19_2).f2)).bind fun t242 => (if t242 = true then (impl_TripOk.j2 k2 x19_2 l0_1 (l0_1.length : Int) x19_2 (decide (((rd_T67 l0_1 x19_2).f1) > ((rd_T67 l0_1 x19_2).f2))) a0_0 l0_1 ((rd_T67 l0_1 x19_2).f0) ((rd_T67 l0_1 x19_2).f1) ((rd_T67 l0_1 x19_2).f2)) else (impl_TripOk.j2 k2 x19_2 l0_1 (l0_1.length : Int) x19_2 true a0_0 l0_1 ((rd_T67 l0_1 x19_2).f0) ((rd_T67 l0_1 x19_2).f1) ((rd_T67 l0_1 x19_2).f2)))) else (impl_TripOk.j2 k2 x19_2 l0_1 (l0_1.length : Int) x19_2 true a0_0 l0_1 ((rd_T67 l0_1 x19_2).f0) ((rd_T67 l0_1 x19_2).f1) ((rd_T67 l0_1 x19_2).f2))) = some r := H
            have A20 := Aside0.mk A200
            clear A200
            by_cases c21 : t241 = true
            · subst c21
              have H1 : ((impl_isMinute.f ((rd_T67 l0_1 x19_2).f2)).bind fun t242 => (if t242 = true then (impl_TripOk.j2 k2 x19_2 l0_1 (l0_1.length : Int) x19_2 (decide (((rd_T67 l0_1 x19_2).f1) > ((rd_T67 l0_1 x19_2).f2))) a0_0 l0_1 ((rd_T67 l0_1 x19_2).f0) ((rd_T67 l0_1 x19_2).f1) ((rd_T67 l0_1 x19_2).f2)) else (impl_TripOk.j2 k2 x19_2 l0_1 (l0_1.length : Int) x19_2 true a0_0 l0_1 ((rd_T67 l0_1 x19_2).f0) ((rd_T67 l0_1 x19_2).f1) ((rd_T67 l0_1 x19_2).f2)))) = some r := by rw [if_pos rfl] at H; exact H
              clear H; have H := H1; clear H1
              replace H := Option.bind_eq_some_iff.mp H
              obtain ⟨t242, A220, H⟩ := H
              replace H : (if t242 = true then (impl_TripOk.j2 k2 x19_2 l0_1 (l0_1.length : Int) x19_2 (decide (((rd_T67 l0_1 x19_2).f1) > ((rd_T67 l0_1 x19_2).f2))) a0_0 l0_1 ((rd_T67 l0_1 x19_2).f0) ((rd_T67 l0_1 x19_2).f1) ((rd_T67 l0_1 x19_2).f2)) else (impl_TripOk.j2 k2 x19_2 l0_1 (l0_1.length : Int) x19_2 true a0_0 l0_1 ((rd_T67 l0_1 x19_2).f0) ((rd_T67 l0_1 x19_2).f1) ((rd_T67 l0_1 x19_2).f2))) = some r := H
              have A22 := Aside0.mk A220
              clear A220
              by_cases c23 : t242 = true
              · subst c23
                have H1 : (impl_TripOk.j2 k2 x19_2 l0_1 (l0_1.length : Int) x19_2 (decide (((rd_T67 l0_1 x19_2).f1) > ((rd_T67 l0_1 x19_2).f2))) a0_0 l0_1 ((rd_T67 l0_1 x19_2).f0) ((rd_T67 l0_1 x19_2).f1) ((rd_T67 l0_1 x19_2).f2)) = some r := by rw [if_pos rfl] at H; exact H
                clear H; have H := H1; clear H1
                have H' := Aside0.mk H
                clear H; have hnb24 := NB239_235.out; have hnc24 := NB235_239.out
                have hcz25_0 : w15.cell? ⟨gb239, 0, none⟩ = some (.int .i64 0) := (blk_cell BK239.out 0).trans rfl
                have hcz25_1 : w15.cell? ⟨gb239, 1, none⟩ = some (.int .i64 0) := (blk_cell BK239.out 1).trans rfl
                have hcz25_2 : w15.cell? ⟨gb239, 2, none⟩ = some (.int .i64 0) := (blk_cell BK239.out 2).trans rfl
                have hfz25_0 := blk_frozen BK239.out 0
                have hfz25_1 := blk_frozen BK239.out 1
                have hfz25_2 := blk_frozen BK239.out 2
                go_wp2_with (first | (go_at_call 61; (with_reducible refine (impl_between.calls ((rd_T67 l0_1 x19_2).f0) 0 29 true _ A18.out).mono ?_); rintro e w' ⟨rfl, ⟨nd, rfl⟩⟩; (try first | exact ⟨rfl, _, World.drewN_drewN _ _ _⟩ | exact ⟨rfl, _, Eq.trans (World.drewN_drewN _ _ _) (congrArg (World.drewN _) (Nat.add_assoc _ _ _))⟩)) | (go_at_call 62; (with_reducible refine (impl_isMinute.calls ((rd_T67 l0_1 x19_2).f1) true _ A20.out).mono ?_); rintro e w' ⟨rfl, ⟨nd, rfl⟩⟩; (try first | exact ⟨rfl, _, World.drewN_drewN _ _ _⟩ | exact ⟨rfl, _, Eq.trans (World.drewN_drewN _ _ _) (congrArg (World.drewN _) (Nat.add_assoc _ _ _))⟩)) | (go_at_call 62; (with_reducible refine (impl_isMinute.calls ((rd_T67 l0_1 x19_2).f2) true _ A22.out).mono ?_); rintro e w' ⟨rfl, ⟨nd, rfl⟩⟩; (try first | exact ⟨rfl, _, World.drewN_drewN _ _ _⟩ | exact ⟨rfl, _, Eq.trans (World.drewN_drewN _ _ _) (congrArg (World.drewN _) (Nat.add_assoc _ _ _))⟩)))
                repeat (go_quiet (first | (go_at_call 61; (with_reducible refine (impl_between.calls ((rd_T67 l0_1 x19_2).f0) 0 29 true _ A18.out).mono ?_); rintro e w' ⟨rfl, ⟨nd, rfl⟩⟩; (try first | exact ⟨rfl, _, World.drewN_drewN _ _ _⟩ | exact ⟨rfl, _, Eq.trans (World.drewN_drewN _ _ _) (congrArg (World.drewN _) (Nat.add_assoc _ _ _))⟩)) | (go_at_call 62; (with_reducible refine (impl_isMinute.calls ((rd_T67 l0_1 x19_2).f1) true _ A20.out).mono ?_); rintro e w' ⟨rfl, ⟨nd, rfl⟩⟩; (try first | exact ⟨rfl, _, World.drewN_drewN _ _ _⟩ | exact ⟨rfl, _, Eq.trans (World.drewN_drewN _ _ _) (congrArg (World.drewN _) (Nat.add_assoc _ _ _))⟩)) | (go_at_call 62; (with_reducible refine (impl_isMinute.calls ((rd_T67 l0_1 x19_2).f2) true _ A22.out).mono ?_); rintro e w' ⟨rfl, ⟨nd, rfl⟩⟩; (try first | exact ⟨rfl, _, World.drewN_drewN _ _ _⟩ | exact ⟨rfl, _, Eq.trans (World.drewN_drewN _ _ _) (congrArg (World.drewN _) (Nat.add_assoc _ _ _))⟩))); try go_wp2_with (first | (go_at_call 61; (with_reducible refine (impl_between.calls ((rd_T67 l0_1 x19_2).f0) 0 29 true _ A18.out).mono ?_); rintro e w' ⟨rfl, ⟨nd, rfl⟩⟩; (try first | exact ⟨rfl, _, World.drewN_drewN _ _ _⟩ | exact ⟨rfl, _, Eq.trans (World.drewN_drewN _ _ _) (congrArg (World.drewN _) (Nat.add_assoc _ _ _))⟩)) | (go_at_call 62; (with_reducible refine (impl_isMinute.calls ((rd_T67 l0_1 x19_2).f1) true _ A20.out).mono ?_); rintro e w' ⟨rfl, ⟨nd, rfl⟩⟩; (try first | exact ⟨rfl, _, World.drewN_drewN _ _ _⟩ | exact ⟨rfl, _, Eq.trans (World.drewN_drewN _ _ _) (congrArg (World.drewN _) (Nat.add_assoc _ _ _))⟩)) | (go_at_call 62; (with_reducible refine (impl_isMinute.calls ((rd_T67 l0_1 x19_2).f2) true _ A22.out).mono ?_); rintro e w' ⟨rfl, ⟨nd, rfl⟩⟩; (try first | exact ⟨rfl, _, World.drewN_drewN _ _ _⟩ | exact ⟨rfl, _, Eq.trans (World.drewN_drewN _ _ _) (congrArg (World.drewN _) (Nat.add_assoc _ _ _))⟩))))
                go_meet
                case rel => exact ⟨_, (decide (((rd_T67 l0_1 x19_2).f1) > ((rd_T67 l0_1 x19_2).f2))), nS, H', ⟨by have := HJ1.out; have := HK2.out; first | omega | exact Nat.le_refl _⟩, ⟨by (with_reducible repeat (first | refine blk_drewN ?_ _ | refine blk_drew ?_ | refine blk_alloc ?_ _)); refine blk_far ?_ NB235_239.out _; (with_reducible repeat (first | refine blk_drewN ?_ _ | refine blk_drew ?_ | refine blk_alloc ?_ _)); refine blk_far ?_ NB235_239.out _; (with_reducible repeat (first | refine blk_drewN ?_ _ | refine blk_drew ?_ | refine blk_alloc ?_ _)); refine blk_far ?_ NB235_239.out _; (with_reducible repeat (first | refine blk_drewN ?_ _ | refine blk_drew ?_ | refine blk_alloc ?_ _)); exact BK235.out⟩, ⟨by (with_reducible repeat (first | refine blk_drewN ?_ _ | refine blk_drew ?_ | refine blk_alloc ?_ _)); refine blk_put (cs := #[.int .i64 ((rd_T67 l0_1 x19_2).f0), .int .i64 ((rd_T67 l0_1 x19_2).f1), .int .i64 0]) ?_ 2 _ rfl; (with_reducible repeat (first | refine blk_drewN ?_ _ | refine blk_drew ?_ | refine blk_alloc ?_ _)); refine blk_put (cs := #[.int .i64 ((rd_T67 l0_1 x19_2).f0), .int .i64 0, .int .i64 0]) ?_ 1 _ rfl; (with_reducible repeat (first | refine blk_drewN ?_ _ | refine blk_drew ?_ | refine blk_alloc ?_ _)); refine blk_put (cs := #[.int .i64 0, .int .i64 0, .int .i64 0]) ?_ 0 _ rfl; (with_reducible repeat (first | refine blk_drewN ?_ _ | refine blk_drew ?_ | refine blk_alloc ?_ _)); exact BK239.out⟩, ⟨nH2 HB.out GE235.out GE239.out⟩⟩
              · replace c23 := Bool.eq_false_iff.mpr c23
                subst c23
                have H1 : (impl_TripOk.j2 k2 x19_2 l0_1 (l0_1.length : Int) x19_2 true a0_0 l0_1 ((rd_T67 l0_1 x19_2).f0) ((rd_T67 l0_1 x19_2).f1) ((rd_T67 l0_1 x19_2).f2)) = some r := by rw [if_neg (show ¬ (false = true) by decide)] at H; exact H
                clear H; have H := H1; clear H1
                have H' := Aside0.mk H
                clear H; have hnb26 := NB239_235.out; have hnc26 := NB235_239.out
                have hcz27_0 : w15.cell? ⟨gb239, 0, none⟩ = some (.int .i64 0) := (blk_cell BK239.out 0).trans rfl
                have hcz27_1 : w15.cell? ⟨gb239, 1, none⟩ = some (.int .i64 0) := (blk_cell BK239.out 1).trans rfl
                have hcz27_2 : w15.cell? ⟨gb239, 2, none⟩ = some (.int .i64 0) := (blk_cell BK239.out 2).trans rfl
                have hfz27_0 := blk_frozen BK239.out 0
                have hfz27_1 := blk_frozen BK239.out 1
                have hfz27_2 := blk_frozen BK239.out 2
                go_wp2_with (first | (go_at_call 61; (with_reducible refine (impl_between.calls ((rd_T67 l0_1 x19_2).f0) 0 29 true _ A18.out).mono ?_); rintro e w' ⟨rfl, ⟨nd, rfl⟩⟩; (try first | exact ⟨rfl, _, World.drewN_drewN _ _ _⟩ | exact ⟨rfl, _, Eq.trans (World.drewN_drewN _ _ _) (congrArg (World.drewN _) (Nat.add_assoc _ _ _))⟩)) | (go_at_call 62; (with_reducible refine (impl_isMinute.calls ((rd_T67 l0_1 x19_2).f1) true _ A20.out).mono ?_); rintro e w' ⟨rfl, ⟨nd, rfl⟩⟩; (try first | exact ⟨rfl, _, World.drewN_drewN _ _ _⟩ | exact ⟨rfl, _, Eq.trans (World.drewN_drewN _ _ _) (congrArg (World.drewN _) (Nat.add_assoc _ _ _))⟩)) | (go_at_call 62; (with_reducible refine (impl_isMinute.calls ((rd_T67 l0_1 x19_2).f2) false _ A22.out).mono ?_); rintro e w' ⟨rfl, ⟨nd, rfl⟩⟩; (try first | exact ⟨rfl, _, World.drewN_drewN _ _ _⟩ | exact ⟨rfl, _, Eq.trans (World.drewN_drewN _ _ _) (congrArg (World.drewN _) (Nat.add_assoc _ _ _))⟩)))
                repeat (go_quiet (first | (go_at_call 61; (with_reducible refine (impl_between.calls ((rd_T67 l0_1 x19_2).f0) 0 29 true _ A18.out).mono ?_); rintro e w' ⟨rfl, ⟨nd, rfl⟩⟩; (try first | exact ⟨rfl, _, World.drewN_drewN _ _ _⟩ | exact ⟨rfl, _, Eq.trans (World.drewN_drewN _ _ _) (congrArg (World.drewN _) (Nat.add_assoc _ _ _))⟩)) | (go_at_call 62; (with_reducible refine (impl_isMinute.calls ((rd_T67 l0_1 x19_2).f1) true _ A20.out).mono ?_); rintro e w' ⟨rfl, ⟨nd, rfl⟩⟩; (try first | exact ⟨rfl, _, World.drewN_drewN _ _ _⟩ | exact ⟨rfl, _, Eq.trans (World.drewN_drewN _ _ _) (congrArg (World.drewN _) (Nat.add_assoc _ _ _))⟩)) | (go_at_call 62; (with_reducible refine (impl_isMinute.calls ((rd_T67 l0_1 x19_2).f2) false _ A22.out).mono ?_); rintro e w' ⟨rfl, ⟨nd, rfl⟩⟩; (try first | exact ⟨rfl, _, World.drewN_drewN _ _ _⟩ | exact ⟨rfl, _, Eq.trans (World.drewN_drewN _ _ _) (congrArg (World.drewN _) (Nat.add_assoc _ _ _))⟩))); try go_wp2_with (first | (go_at_call 61; (with_reducible refine (impl_between.calls ((rd_T67 l0_1 x19_2).f0) 0 29 true _ A18.out).mono ?_); rintro e w' ⟨rfl, ⟨nd, rfl⟩⟩; (try first | exact ⟨rfl, _, World.drewN_drewN _ _ _⟩ | exact ⟨rfl, _, Eq.trans (World.drewN_drewN _ _ _) (congrArg (World.drewN _) (Nat.add_assoc _ _ _))⟩)) | (go_at_call 62; (with_reducible refine (impl_isMinute.calls ((rd_T67 l0_1 x19_2).f1) true _ A20.out).mono ?_); rintro e w' ⟨rfl, ⟨nd, rfl⟩⟩; (try first | exact ⟨rfl, _, World.drewN_drewN _ _ _⟩ | exact ⟨rfl, _, Eq.trans (World.drewN_drewN _ _ _) (congrArg (World.drewN _) (Nat.add_assoc _ _ _))⟩)) | (go_at_call 62; (with_reducible refine (impl_isMinute.calls ((rd_T67 l0_1 x19_2).f2) false _ A22.out).mono ?_); rintro e w' ⟨rfl, ⟨nd, rfl⟩⟩; (try first | exact ⟨rfl, _, World.drewN_drewN _ _ _⟩ | exact ⟨rfl, _, Eq.trans (World.drewN_drewN _ _ _) (congrArg (World.drewN _) (Nat.add_assoc _ _ _))⟩))))
                go_meet
                case rel => exact ⟨_, (true), nS, H', ⟨by have := HJ1.out; have := HK2.out; first | omega | exact Nat.le_refl _⟩, ⟨by (with_reducible repeat (first | refine blk_drewN ?_ _ | refine blk_drew ?_ | refine blk_alloc ?_ _)); refine blk_far ?_ NB235_239.out _; (with_reducible repeat (first | refine blk_drewN ?_ _ | refine blk_drew ?_ | refine blk_alloc ?_ _)); refine blk_far ?_ NB235_239.out _; (with_reducible repeat (first | refine blk_drewN ?_ _ | refine blk_drew ?_ | refine blk_alloc ?_ _)); refine blk_far ?_ NB235_239.out _; (with_reducible repeat (first | refine blk_drewN ?_ _ | refine blk_drew ?_ | refine blk_alloc ?_ _)); exact BK235.out⟩, ⟨by (with_reducible repeat (first | refine blk_drewN ?_ _ | refine blk_drew ?_ | refine blk_alloc ?_ _)); refine blk_put (cs := #[.int .i64 ((rd_T67 l0_1 x19_2).f0), .int .i64 ((rd_T67 l0_1 x19_2).f1), .int .i64 0]) ?_ 2 _ rfl; (with_reducible repeat (first | refine blk_drewN ?_ _ | refine blk_drew ?_ | refine blk_alloc ?_ _)); refine blk_put (cs := #[.int .i64 ((rd_T67 l0_1 x19_2).f0), .int .i64 0, .int .i64 0]) ?_ 1 _ rfl; (with_reducible repeat (first | refine blk_drewN ?_ _ | refine blk_drew ?_ | refine blk_alloc ?_ _)); refine blk_put (cs := #[.int .i64 0, .int .i64 0, .int .i64 0]) ?_ 0 _ rfl; (with_reducible repeat (first | refine blk_drewN ?_ _ | refine blk_drew ?_ | refine blk_alloc ?_ _)); exact BK239.out⟩, ⟨nH2 HB.out GE235.out GE239.out⟩⟩
            · replace c21 := Bool.eq_false_iff.mpr c21
              subst c21
              have H1 : (impl_TripOk.j2 k2 x19_2 l0_1 (l0_1.length : Int) x19_2 true a0_0 l0_1 ((rd_T67 l0_1 x19_2).f0) ((rd_T67 l0_1 x19_2).f1) ((rd_T67 l0_1 x19_2).f2)) = some r := by rw [if_neg (show ¬ (false = true) by decide)] at H; exact H
              clear H; have H := H1; clear H1
              have H' := Aside0.mk H
              clear H; have hnb28 := NB239_235.out; have hnc28 := NB235_239.out
              have hcz29_0 : w15.cell? ⟨gb239, 0, none⟩ = some (.int .i64 0) := (blk_cell BK239.out 0).trans rfl
              have hcz29_1 : w15.cell? ⟨gb239, 1, none⟩ = some (.int .i64 0) := (blk_cell BK239.out 1).trans rfl
              have hcz29_2 : w15.cell? ⟨gb239, 2, none⟩ = some (.int .i64 0) := (blk_cell BK239.out 2).trans rfl
              have hfz29_0 := blk_frozen BK239.out 0
              have hfz29_1 := blk_frozen BK239.out 1
              have hfz29_2 := blk_frozen BK239.out 2
              go_wp2_with (first | (go_at_call 61; (with_reducible refine (impl_between.calls ((rd_T67 l0_1 x19_2).f0) 0 29 true _ A18.out).mono ?_); rintro e w' ⟨rfl, ⟨nd, rfl⟩⟩; (try first | exact ⟨rfl, _, World.drewN_drewN _ _ _⟩ | exact ⟨rfl, _, Eq.trans (World.drewN_drewN _ _ _) (congrArg (World.drewN _) (Nat.add_assoc _ _ _))⟩)) | (go_at_call 62; (with_reducible refine (impl_isMinute.calls ((rd_T67 l0_1 x19_2).f1) false _ A20.out).mono ?_); rintro e w' ⟨rfl, ⟨nd, rfl⟩⟩; (try first | exact ⟨rfl, _, World.drewN_drewN _ _ _⟩ | exact ⟨rfl, _, Eq.trans (World.drewN_drewN _ _ _) (congrArg (World.drewN _) (Nat.add_assoc _ _ _))⟩)))
              repeat (go_quiet (first | (go_at_call 61; (with_reducible refine (impl_between.calls ((rd_T67 l0_1 x19_2).f0) 0 29 true _ A18.out).mono ?_); rintro e w' ⟨rfl, ⟨nd, rfl⟩⟩; (try first | exact ⟨rfl, _, World.drewN_drewN _ _ _⟩ | exact ⟨rfl, _, Eq.trans (World.drewN_drewN _ _ _) (congrArg (World.drewN _) (Nat.add_assoc _ _ _))⟩)) | (go_at_call 62; (with_reducible refine (impl_isMinute.calls ((rd_T67 l0_1 x19_2).f1) false _ A20.out).mono ?_); rintro e w' ⟨rfl, ⟨nd, rfl⟩⟩; (try first | exact ⟨rfl, _, World.drewN_drewN _ _ _⟩ | exact ⟨rfl, _, Eq.trans (World.drewN_drewN _ _ _) (congrArg (World.drewN _) (Nat.add_assoc _ _ _))⟩))); try go_wp2_with (first | (go_at_call 61; (with_reducible refine (impl_between.calls ((rd_T67 l0_1 x19_2).f0) 0 29 true _ A18.out).mono ?_); rintro e w' ⟨rfl, ⟨nd, rfl⟩⟩; (try first | exact ⟨rfl, _, World.drewN_drewN _ _ _⟩ | exact ⟨rfl, _, Eq.trans (World.drewN_drewN _ _ _) (congrArg (World.drewN _) (Nat.add_assoc _ _ _))⟩)) | (go_at_call 62; (with_reducible refine (impl_isMinute.calls ((rd_T67 l0_1 x19_2).f1) false _ A20.out).mono ?_); rintro e w' ⟨rfl, ⟨nd, rfl⟩⟩; (try first | exact ⟨rfl, _, World.drewN_drewN _ _ _⟩ | exact ⟨rfl, _, Eq.trans (World.drewN_drewN _ _ _) (congrArg (World.drewN _) (Nat.add_assoc _ _ _))⟩))))
              go_meet
              case rel => exact ⟨_, (true), nS, H', ⟨by have := HJ1.out; have := HK2.out; first | omega | exact Nat.le_refl _⟩, ⟨by (with_reducible repeat (first | refine blk_drewN ?_ _ | refine blk_drew ?_ | refine blk_alloc ?_ _)); refine blk_far ?_ NB235_239.out _; (with_reducible repeat (first | refine blk_drewN ?_ _ | refine blk_drew ?_ | refine blk_alloc ?_ _)); refine blk_far ?_ NB235_239.out _; (with_reducible repeat (first | refine blk_drewN ?_ _ | refine blk_drew ?_ | refine blk_alloc ?_ _)); refine blk_far ?_ NB235_239.out _; (with_reducible repeat (first | refine blk_drewN ?_ _ | refine blk_drew ?_ | refine blk_alloc ?_ _)); exact BK235.out⟩, ⟨by (with_reducible repeat (first | refine blk_drewN ?_ _ | refine blk_drew ?_ | refine blk_alloc ?_ _)); refine blk_put (cs := #[.int .i64 ((rd_T67 l0_1 x19_2).f0), .int .i64 ((rd_T67 l0_1 x19_2).f1), .int .i64 0]) ?_ 2 _ rfl; (with_reducible repeat (first | refine blk_drewN ?_ _ | refine blk_drew ?_ | refine blk_alloc ?_ _)); refine blk_put (cs := #[.int .i64 ((rd_T67 l0_1 x19_2).f0), .int .i64 0, .int .i64 0]) ?_ 1 _ rfl; (with_reducible repeat (first | refine blk_drewN ?_ _ | refine blk_drew ?_ | refine blk_alloc ?_ _)); refine blk_put (cs := #[.int .i64 0, .int .i64 0, .int .i64 0]) ?_ 0 _ rfl; (with_reducible repeat (first | refine blk_drewN ?_ _ | refine blk_drew ?_ | refine blk_alloc ?_ _)); exact BK239.out⟩, ⟨nH2 HB.out GE235.out GE239.out⟩⟩
          · replace c19 := Bool.eq_false_iff.mpr c19
            subst c19
            have H1 : (impl_TripOk.j2 k2 x19_2 l0_1 (l0_1.length : Int) x19_2 true a0_0 l0_1 ((rd_T67 l0_1 x19_2).f0) ((rd_T67 l0_1 x19_2).f1) ((rd_T67 l0_1 x19_2).f2)) = some r := by rw [if_neg (show ¬ (false = true) by decide)] at H; exact H
            clear H; have H := H1; clear H1
            have H' := Aside0.mk H
            clear H; have hnb30 := NB239_235.out; have hnc30 := NB235_239.out
            have hcz31_0 : w15.cell? ⟨gb239, 0, none⟩ = some (.int .i64 0) := (blk_cell BK239.out 0).trans rfl
            have hcz31_1 : w15.cell? ⟨gb239, 1, none⟩ = some (.int .i64 0) := (blk_cell BK239.out 1).trans rfl
            have hcz31_2 : w15.cell? ⟨gb239, 2, none⟩ = some (.int .i64 0) := (blk_cell BK239.out 2).trans rfl
            have hfz31_0 := blk_frozen BK239.out 0
            have hfz31_1 := blk_frozen BK239.out 1
            have hfz31_2 := blk_frozen BK239.out 2
            go_wp2_with (first | (go_at_call 61; (with_reducible refine (impl_between.calls ((rd_T67 l0_1 x19_2).f0) 0 29 false _ A18.out).mono ?_); rintro e w' ⟨rfl, ⟨nd, rfl⟩⟩; (try first | exact ⟨rfl, _, World.drewN_drewN _ _ _⟩ | exact ⟨rfl, _, Eq.trans (World.drewN_drewN _ _ _) (congrArg (World.drewN _) (Nat.add_assoc _ _ _))⟩)))
            repeat (go_quiet (first | (go_at_call 61; (with_reducible refine (impl_between.calls ((rd_T67 l0_1 x19_2).f0) 0 29 false _ A18.out).mono ?_); rintro e w' ⟨rfl, ⟨nd, rfl⟩⟩; (try first | exact ⟨rfl, _, World.drewN_drewN _ _ _⟩ | exact ⟨rfl, _, Eq.trans (World.drewN_drewN _ _ _) (congrArg (World.drewN _) (Nat.add_assoc _ _ _))⟩))); try go_wp2_with (first | (go_at_call 61; (with_reducible refine (impl_between.calls ((rd_T67 l0_1 x19_2).f0) 0 29 false _ A18.out).mono ?_); rintro e w' ⟨rfl, ⟨nd, rfl⟩⟩; (try first | exact ⟨rfl, _, World.drewN_drewN _ _ _⟩ | exact ⟨rfl, _, Eq.trans (World.drewN_drewN _ _ _) (congrArg (World.drewN _) (Nat.add_assoc _ _ _))⟩))))
            go_meet
            case rel => exact ⟨_, (true), nS, H', ⟨by have := HJ1.out; have := HK2.out; first | omega | exact Nat.le_refl _⟩, ⟨by (with_reducible repeat (first | refine blk_drewN ?_ _ | refine blk_drew ?_ | refine blk_alloc ?_ _)); refine blk_far ?_ NB235_239.out _; (with_reducible repeat (first | refine blk_drewN ?_ _ | refine blk_drew ?_ | refine blk_alloc ?_ _)); refine blk_far ?_ NB235_239.out _; (with_reducible repeat (first | refine blk_drewN ?_ _ | refine blk_drew ?_ | refine blk_alloc ?_ _)); refine blk_far ?_ NB235_239.out _; (with_reducible repeat (first | refine blk_drewN ?_ _ | refine blk_drew ?_ | refine blk_alloc ?_ _)); exact BK235.out⟩, ⟨by (with_reducible repeat (first | refine blk_drewN ?_ _ | refine blk_drew ?_ | refine blk_alloc ?_ _)); refine blk_put (cs := #[.int .i64 ((rd_T67 l0_1 x19_2).f0), .int .i64 ((rd_T67 l0_1 x19_2).f1), .int .i64 0]) ?_ 2 _ rfl; (with_reducible repeat (first | refine blk_drewN ?_ _ | refine blk_drew ?_ | refine blk_alloc ?_ _)); refine blk_put (cs := #[.int .i64 ((rd_T67 l0_1 x19_2).f0), .int .i64 0, .int .i64 0]) ?_ 1 _ rfl; (with_reducible repeat (first | refine blk_drewN ?_ _ | refine blk_drew ?_ | refine blk_alloc ?_ _)); refine blk_put (cs := #[.int .i64 0, .int .i64 0, .int .i64 0]) ?_ 0 _ rfl; (with_reducible repeat (first | refine blk_drewN ?_ _ | refine blk_drew ?_ | refine blk_alloc ?_ _)); exact BK239.out⟩, ⟨nH2 HB.out GE235.out GE239.out⟩⟩
         case rest =>
          clear HC14; try clear c1; try clear c2; try clear p2; try clear q2; try clear hx2; try clear c3; try clear c5; try clear p6; try clear c7; try clear c9; try clear c11; try clear c11b0; try clear c12; try clear c12b0; try clear c13; try clear c13b0; try clear c16; try clear c19; try clear c21; try clear c23; try clear p23; try clear q23; try clear hx23; try clear c24; try clear c26; try clear c28; try clear c30; try clear hcz10_0; try clear hcz10_1; try clear hcz17_0; try clear hcz17_1; try clear hcz17_2; try clear hcz25_0; try clear hcz25_1; try clear hcz25_2; try clear hcz27_0; try clear hcz27_1
          try clear hcz27_2; try clear hcz29_0; try clear hcz29_1; try clear hcz29_2; try clear hcz31_0; try clear hcz31_1; try clear hcz31_2; try clear hcz7_0; try clear hcz7_1; try clear hcz8_0; try clear hcz8_1; try clear hfz10_0; try clear hfz10_1; try clear hfz17_0; try clear hfz17_1; try clear hfz17_2; try clear hfz25_0; try clear hfz25_1; try clear hfz25_2; try clear hfz27_0; try clear hfz27_1; try clear hfz27_2; try clear hfz29_0; try clear hfz29_1; try clear hfz29_2; try clear hfz31_0; try clear hfz31_1; try clear hfz31_2; try clear hfz7_0; try clear hfz7_1; try clear hfz8_0; try clear hfz8_1
          try clear hx238_0; try clear hx238_1; try clear hx238_2; try clear p2; try clear p238; try clear p6; try clear q238
          obtain ⟨kq, x46_13, rfl, HA, HJ13, BK235, BK239, HB⟩ := hcut
          cases kq with
          | zero => exact absurd HA.out (by simp [impl_TripOk.j2])
          | succ kj13 =>
           have H := HA.out; clear HA
           simp only [impl_TripOk.j2] at H
           by_cases c32 : x46_13 = true
           · subst c32
             have H1 : (some false) = some r := by rw [if_pos rfl] at H; exact H
             clear H; have H := H1; clear H1; obtain rfl := Option.some.inj H; go_wp2
             repeat (go_quiet (fail); try go_wp2)
             go_ret
             exact ⟨by first | rfl | (simp [errW_none, errW_some] <;> rfl) | (simp [*, errW_none, errW_some] <;> first | rfl | (simp [wrap64]; done)), nH2 HB.out GE235.out GE239.out⟩
           · replace c32 := Bool.eq_false_iff.mpr c32
             subst c32
             have H1 : (if x19_2 > 0 then (if 0 ≤ (wrap64 (x19_2 - 1)) then (if (wrap64 (x19_2 - 1)) < (l0_1.length : Int) then (if ((rd_T67 l0_1 x19_2).f1) ≤ ((rd_T67 l0_1 (wrap64 (x19_2 - 1))).f2) then (some false) else (if ((rd_T67 l0_1 x19_2).f0) = ((rd_T67 l0_1 (wrap64 (x19_2 - 1))).f0) then (some false) else (impl_TripOk.l0 kj13 l0_1 (l0_1.length : Int) (wrap64 (x19_2 + 1)) a0_0 l0_1))) else (none)) else (none)) else (impl_TripOk.l0 kj13 l0_1 (l0_1.length : Int) (wrap64 (x19_2 + 1)) a0_0 l0_1)) = some r := by rw [if_neg (show ¬ (false = true) by decide)] at H; exact H
             clear H; have H := H1; clear H1
             by_cases c33 : x19_2 > 0
             · rw [if_pos c33] at H
               have c33b0 : decide (0 < x19_2) = true := decide_eq_true c33
               clear c33
               obtain ⟨ji34, hji34⟩ : ∃ j_ : Int, (wrap64 (x19_2 - 1)) = j_ := ⟨_, rfl⟩
               replace H : (if 0 ≤ (ji34) then (if (ji34) < (l0_1.length : Int) then (if ((rd_T67 l0_1 x19_2).f1) ≤ ((rd_T67 l0_1 (ji34)).f2) then (some false) else (if ((rd_T67 l0_1 x19_2).f0) = ((rd_T67 l0_1 (ji34)).f0) then (some false) else (impl_TripOk.l0 kj13 l0_1 (l0_1.length : Int) (wrap64 (x19_2 + 1)) a0_0 l0_1))) else (none)) else (none)) = some r := by first | (rw [hji34] at H; exact H) | (simp only [hji34] at H ⊢; exact H)
               have hji34w : (IntKind.i64.wrap (x19_2 - 1)) = ji34 := (i64_w _).trans hji34
               by_cases c35 : 0 ≤ (ji34)
               rotate_left
               · (rw [if_neg c35] at H; exact absurd H (by simp))
               rw [if_pos c35] at H
               have c35b0 : decide (0 ≤ (ji34)) = true := decide_eq_true c35
               clear c35
               by_cases c36 : (ji34) < (l0_1.length : Int)
               rotate_left
               · (rw [if_neg c36] at H; exact absurd H (by simp))
               rw [if_pos c36] at H
               have c36b0 : decide ((ji34) < (l0_1.length : Int)) = true := decide_eq_true c36
               clear c36
               by_cases c37 : ((rd_T67 l0_1 x19_2).f1) ≤ ((rd_T67 l0_1 (ji34)).f2)
               · rw [if_pos c37] at H
                 have c37b0 : decide (((rd_T67 l0_1 x19_2).f1) ≤ ((rd_T67 l0_1 (ji34)).f2)) = true := decide_eq_true c37
                 clear c37; obtain rfl := Option.some.inj H; have hnb38 := NB239_235.out; have hnc38 := NB235_239.out
                 have hcz39_0 : wc.cell? ⟨gb239, 0, none⟩ = some (.int .i64 ((rd_T67 l0_1 x19_2).f0)) := (blk_cell BK239.out 0).trans rfl
                 have hcz39_1 : wc.cell? ⟨gb239, 1, none⟩ = some (.int .i64 ((rd_T67 l0_1 x19_2).f1)) := (blk_cell BK239.out 1).trans rfl
                 have hcz39_2 : wc.cell? ⟨gb239, 2, none⟩ = some (.int .i64 ((rd_T67 l0_1 x19_2).f2)) := (blk_cell BK239.out 2).trans rfl
                 have hfz39_0 := blk_frozen BK239.out 0
                 have hfz39_1 := blk_frozen BK239.out 1
                 have hfz39_2 := blk_frozen BK239.out 2
                 have hcz40_0 : wc.cell? ⟨gb235, 0, none⟩ = some (.string a0_0) := (blk_cell BK235.out 0).trans rfl
                 have hcz40_1 : wc.cell? ⟨gb235, 1, none⟩ = some (.slice (some ad238) l0_1.length c0_1) := (blk_cell BK235.out 1).trans rfl
                 have hfz40_0 := blk_frozen BK235.out 0
                 have hfz40_1 := blk_frozen BK235.out 1
                 have p243 : 0 ≤ ((ji34) : Int) := of_decide_eq_true nQ
                 have q243 : (ji34) < (l0_1.length : Int) := of_decide_eq_true nQ
                 obtain ⟨ad243, e243, hx243_0, hx243_1, hx243_2⟩ := at_T67 HR0_1.out (ji34) p243 q243
                 obtain rfl : ad238 = ad243 := (by injection e243)
                 replace hx243_0 := (HB.out.cell (World.block_lt_of_cell? w _ hx243_0)).trans hx243_0
                 replace hx243_1 := (HB.out.cell (World.block_lt_of_cell? w _ hx243_1)).trans hx243_1
                 replace hx243_2 := (HB.out.cell (World.block_lt_of_cell? w _ hx243_2)).trans hx243_2
                 replace p243 := eq_true p243; replace q243 := eq_true q243; go_wp2
                 repeat (go_quiet (fail); try go_wp2)
                 go_ret
                 exact ⟨by first | rfl | (simp [errW_none, errW_some] <;> rfl) | (simp only [← hji34]; first | rfl | (simp [errW_none, errW_some] <;> rfl)) | (simp [*, errW_none, errW_some] <;> first | rfl | (simp [wrap64]; done)), nH2 HB.out GE235.out GE239.out⟩
               · rw [if_neg c37] at H
                 have c37b0 : decide (((rd_T67 l0_1 x19_2).f1) ≤ ((rd_T67 l0_1 (ji34)).f2)) = false := decide_eq_false c37
                 clear c37
                 by_cases c41 : ((rd_T67 l0_1 x19_2).f0) = ((rd_T67 l0_1 (ji34)).f0)
                 · rw [if_pos c41] at H
                   have c41b0 : (((rd_T67 l0_1 x19_2).f0) == ((rd_T67 l0_1 (ji34)).f0)) = true := beq_iff_eq.mpr c41
                   have c41b1 : (((rd_T67 l0_1 x19_2).f0) != ((rd_T67 l0_1 (ji34)).f0)) = false := bne_eq_false_iff_eq.mpr c41
                   clear c41; obtain rfl := Option.some.inj H; have hnb42 := NB239_235.out; have hnc42 := NB235_239.out
                   have hcz43_0 : wc.cell? ⟨gb239, 0, none⟩ = some (.int .i64 ((rd_T67 l0_1 x19_2).f0)) := (blk_cell BK239.out 0).trans rfl
                   have hcz43_1 : wc.cell? ⟨gb239, 1, none⟩ = some (.int .i64 ((rd_T67 l0_1 x19_2).f1)) := (blk_cell BK239.out 1).trans rfl
                   have hcz43_2 : wc.cell? ⟨gb239, 2, none⟩ = some (.int .i64 ((rd_T67 l0_1 x19_2).f2)) := (blk_cell BK239.out 2).trans rfl
                   have hfz43_0 := blk_frozen BK239.out 0
                   have hfz43_1 := blk_frozen BK239.out 1
                   have hfz43_2 := blk_frozen BK239.out 2
                   have hcz44_0 : wc.cell? ⟨gb235, 0, none⟩ = some (.string a0_0) := (blk_cell BK235.out 0).trans rfl
                   have hcz44_1 : wc.cell? ⟨gb235, 1, none⟩ = some (.slice (some ad238) l0_1.length c0_1) := (blk_cell BK235.out 1).trans rfl
                   have hfz44_0 := blk_frozen BK235.out 0
                   have hfz44_1 := blk_frozen BK235.out 1
                   have p243 : 0 ≤ ((ji34) : Int) := of_decide_eq_true nQ
                   have q243 : (ji34) < (l0_1.length : Int) := of_decide_eq_true nQ
                   obtain ⟨ad243, e243, hx243_0, hx243_1, hx243_2⟩ := at_T67 HR0_1.out (ji34) p243 q243
                   obtain rfl : ad238 = ad243 := (by injection e243)
                   replace hx243_0 := (HB.out.cell (World.block_lt_of_cell? w _ hx243_0)).trans hx243_0
                   replace hx243_1 := (HB.out.cell (World.block_lt_of_cell? w _ hx243_1)).trans hx243_1
                   replace hx243_2 := (HB.out.cell (World.block_lt_of_cell? w _ hx243_2)).trans hx243_2
                   replace p243 := eq_true p243; replace q243 := eq_true q243
                   have p244 : 0 ≤ ((ji34) : Int) := of_decide_eq_true nQ
                   have q244 : (ji34) < (l0_1.length : Int) := of_decide_eq_true nQ
                   obtain ⟨ad244, e244, hx244_0, hx244_1, hx244_2⟩ := at_T67 HR0_1.out (ji34) p244 q244
                   obtain rfl : ad238 = ad244 := (by injection e244)
                   replace hx244_0 := (HB.out.cell (World.block_lt_of_cell? w _ hx244_0)).trans hx244_0
                   replace hx244_1 := (HB.out.cell (World.block_lt_of_cell? w _ hx244_1)).trans hx244_1
                   replace hx244_2 := (HB.out.cell (World.block_lt_of_cell? w _ hx244_2)).trans hx244_2
                   replace p244 := eq_true p244; replace q244 := eq_true q244; go_wp2
                   repeat (go_quiet (fail); try go_wp2)
                   go_ret
                   exact ⟨by first | rfl | (simp [errW_none, errW_some] <;> rfl) | (simp only [← hji34]; first | rfl | (simp [errW_none, errW_some] <;> rfl)) | (simp [*, errW_none, errW_some] <;> first | rfl | (simp [wrap64]; done)), nH2 HB.out GE235.out GE239.out⟩
                 · rw [if_neg c41] at H
                   have c41b0 : (((rd_T67 l0_1 x19_2).f0) == ((rd_T67 l0_1 (ji34)).f0)) = false := beq_eq_false_iff_ne.mpr c41
                   have c41b1 : (((rd_T67 l0_1 x19_2).f0) != ((rd_T67 l0_1 (ji34)).f0)) = true := bne_iff_ne.mpr c41
                   have H' := Aside0.mk H
                   clear H; have hnb45 := NB239_235.out; have hnc45 := NB235_239.out
                   have hcz46_0 : wc.cell? ⟨gb239, 0, none⟩ = some (.int .i64 ((rd_T67 l0_1 x19_2).f0)) := (blk_cell BK239.out 0).trans rfl
                   have hcz46_1 : wc.cell? ⟨gb239, 1, none⟩ = some (.int .i64 ((rd_T67 l0_1 x19_2).f1)) := (blk_cell BK239.out 1).trans rfl
                   have hcz46_2 : wc.cell? ⟨gb239, 2, none⟩ = some (.int .i64 ((rd_T67 l0_1 x19_2).f2)) := (blk_cell BK239.out 2).trans rfl
                   have hfz46_0 := blk_frozen BK239.out 0
                   have hfz46_1 := blk_frozen BK239.out 1
                   have hfz46_2 := blk_frozen BK239.out 2
                   have hcz47_0 : wc.cell? ⟨gb235, 0, none⟩ = some (.string a0_0) := (blk_cell BK235.out 0).trans rfl
                   have hcz47_1 : wc.cell? ⟨gb235, 1, none⟩ = some (.slice (some ad238) l0_1.length c0_1) := (blk_cell BK235.out 1).trans rfl
                   have hfz47_0 := blk_frozen BK235.out 0
                   have hfz47_1 := blk_frozen BK235.out 1
                   have p243 : 0 ≤ ((ji34) : Int) := of_decide_eq_true nQ
                   have q243 : (ji34) < (l0_1.length : Int) := of_decide_eq_true nQ
                   obtain ⟨ad243, e243, hx243_0, hx243_1, hx243_2⟩ := at_T67 HR0_1.out (ji34) p243 q243
                   obtain rfl : ad238 = ad243 := (by injection e243)
                   replace hx243_0 := (HB.out.cell (World.block_lt_of_cell? w _ hx243_0)).trans hx243_0
                   replace hx243_1 := (HB.out.cell (World.block_lt_of_cell? w _ hx243_1)).trans hx243_1
                   replace hx243_2 := (HB.out.cell (World.block_lt_of_cell? w _ hx243_2)).trans hx243_2
                   replace p243 := eq_true p243; replace q243 := eq_true q243
                   have p244 : 0 ≤ ((ji34) : Int) := of_decide_eq_true nQ
                   have q244 : (ji34) < (l0_1.length : Int) := of_decide_eq_true nQ
                   obtain ⟨ad244, e244, hx244_0, hx244_1, hx244_2⟩ := at_T67 HR0_1.out (ji34) p244 q244
                   obtain rfl : ad238 = ad244 := (by injection e244)
                   replace hx244_0 := (HB.out.cell (World.block_lt_of_cell? w _ hx244_0)).trans hx244_0
                   replace hx244_1 := (HB.out.cell (World.block_lt_of_cell? w _ hx244_1)).trans hx244_1
                   replace hx244_2 := (HB.out.cell (World.block_lt_of_cell? w _ hx244_2)).trans hx244_2
                   replace p244 := eq_true p244; replace q244 := eq_true q244; go_wp2
                   repeat (go_quiet (fail); try go_wp2)
                   go_roundg kj13
                   case measure => have := HJ1.out; have := HK2.out; have := HJ13.out; omega
                   case rel => exact ⟨(wrap64 (x19_2 + 1)), nS, H', ⟨by have := HJ1.out; have := HK2.out; have := HJ13.out; omega⟩, ⟨by (with_reducible repeat (first | refine blk_drewN ?_ _ | refine blk_drew ?_ | refine blk_alloc ?_ _)); exact BK235.out⟩, ⟨nH2 HB.out GE235.out GE239.out⟩⟩
             · rw [if_neg c33] at H
               have c33b0 : decide (0 < x19_2) = false := decide_eq_false c33
               clear c33
               have H' := Aside0.mk H
               clear H; go_wp2
               repeat (go_quiet (fail); try go_wp2)
               go_roundg kj13
               case measure => have := HJ1.out; have := HK2.out; have := HJ13.out; omega
               case rel => exact ⟨(wrap64 (x19_2 + 1)), nS, H', ⟨by have := HJ1.out; have := HK2.out; have := HJ13.out; omega⟩, ⟨by (with_reducible repeat (first | refine blk_drewN ?_ _ | refine blk_drew ?_ | refine blk_alloc ?_ _)); exact BK235.out⟩, ⟨nH2 HB.out GE235.out GE239.out⟩⟩
       · rw [if_neg c11] at H
         have c11b0 : decide (x19_2 < (l0_1.length : Int)) = false := decide_eq_false c11
         clear c11; obtain rfl := Option.some.inj H; go_wp2
         repeat (go_quiet (fail); try go_wp2)
         go_ret
         exact ⟨by first | rfl | (simp [errW_none, errW_some] <;> rfl) | (simp [*, errW_none, errW_some] <;> first | rfl | (simp [wrap64]; done)), nH1 HB.out GE235.out⟩
end Go.Proofs.Ytdpjoblnjjkbfaa.P

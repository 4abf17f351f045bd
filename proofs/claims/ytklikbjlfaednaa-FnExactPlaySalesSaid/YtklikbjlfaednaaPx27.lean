/- Contracts of the functions of the program, each one with its plain Lean function; written by a program of the session out of the translation. -/
import Derived.Test.YtklikbjlfaednaaNe
import Derived.Test.YtklikbjlfaednaaNc
import Derived.Test.YtklikbjlfaednaaPx0
import Derived.Test.YtklikbjlfaednaaPx26
namespace Go.Proofs.Ytklikbjlfaednaa.P
open Go.RowKit Go.Proofs.YtklikbjlfaednaaW.PrintWords Go.Proofs.YtklikbjlfaednaaW.PrintLast Go.Proofs.YtklikbjlfaednaaW.PrintMore
attribute [local go_sem] max2_int min2_int max_two min_two max_three min_three max_four min_four   -- for this text's walks alone
set_option linter.unusedVariables false
set_option linter.unusedSimpArgs false
/-! ### spec_TrainOk: function 13 -/
theorem spec_TrainOk.mono_l : ∀ k, (∀ y0 y1 y2 y3, LeO (spec_TrainOk.j0 k y0 y1 y2 y3) (spec_TrainOk.j0 (k + 1) y0 y1 y2 y3)) ∧ (∀ y0 y1 y2 y3, LeO (spec_TrainOk.l0 k y0 y1 y2 y3) (spec_TrainOk.l0 (k + 1) y0 y1 y2 y3)) ∧ (∀ y0 y1 y2 y3 y4 y5 y6 y7 y8, LeO (spec_TrainOk.j2 k y0 y1 y2 y3 y4 y5 y6 y7 y8) (spec_TrainOk.j2 (k + 1) y0 y1 y2 y3 y4 y5 y6 y7 y8)) ∧ (∀ y0 y1 y2 y3 y4 y5 y6 y7 y8, LeO (spec_TrainOk.l1 k y0 y1 y2 y3 y4 y5 y6 y7 y8) (spec_TrainOk.l1 (k + 1) y0 y1 y2 y3 y4 y5 y6 y7 y8))
 | 0 => ⟨fun _ _ _ _ r h => by simp [spec_TrainOk.j0] at h, fun _ _ _ _ r h => by simp [spec_TrainOk.l0] at h, fun _ _ _ _ _ _ _ _ _ r h => by simp [spec_TrainOk.j2] at h, fun _ _ _ _ _ _ _ _ _ r h => by simp [spec_TrainOk.l1] at h⟩
 | k + 1 => by
  obtain ⟨ih0, ih1, ih2, ih3⟩ := spec_TrainOk.mono_l k
  refine ⟨?_, ?_, ?_, ?_⟩
  · intro y0 y1 y2 y3
    unfold spec_TrainOk.j0
    repeat' first
    | (with_reducible exact ih0 _ _ _ _)
    | (with_reducible exact ih1 _ _ _ _)
    | (with_reducible exact ih2 _ _ _ _ _ _ _ _ _)
    | (with_reducible exact ih3 _ _ _ _ _ _ _ _ _)
    | (with_reducible exact LeO.refl _)
    | (with_reducible exact LeO.none _)
    | (with_reducible refine LeO.ite ?_ ?_)
    | (with_reducible refine LeO.bind ?_ (fun _ => ?_))
    | exact ih0 _ _ _ _
    | exact ih1 _ _ _ _
    | exact ih2 _ _ _ _ _ _ _ _ _
    | exact ih3 _ _ _ _ _ _ _ _ _
    | exact LeO.none _
    | refine LeO.ite ?_ ?_
    | refine LeO.bind ?_ (fun _ => ?_)
  · intro y0 y1 y2 y3
    unfold spec_TrainOk.l0
    repeat' first
    | (with_reducible exact ih0 _ _ _ _)
    | (with_reducible exact ih1 _ _ _ _)
    | (with_reducible exact ih2 _ _ _ _ _ _ _ _ _)
    | (with_reducible exact ih3 _ _ _ _ _ _ _ _ _)
    | (with_reducible exact LeO.refl _)
    | (with_reducible exact LeO.none _)
    | (with_reducible refine LeO.ite ?_ ?_)
    | (with_reducible refine LeO.bind ?_ (fun _ => ?_))
    | exact ih0 _ _ _ _
    | exact ih1 _ _ _ _
    | exact ih2 _ _ _ _ _ _ _ _ _
    | exact ih3 _ _ _ _ _ _ _ _ _
    | exact LeO.none _
    | refine LeO.ite ?_ ?_
    | refine LeO.bind ?_ (fun _ => ?_)
  · intro y0 y1 y2 y3 y4 y5 y6 y7 y8
    unfold spec_TrainOk.j2
    repeat' first
    | (with_reducible exact ih0 _ _ _ _)
    | (with_reducible exact ih1 _ _ _ _)
    | (with_reducible exact ih2 _ _ _ _ _ _ _ _ _)
    | (with_reducible exact ih3 _ _ _ _ _ _ _ _ _)
    | (with_reducible exact LeO.refl _)
    | (with_reducible exact LeO.none _)
    | (with_reducible refine LeO.ite ?_ ?_)
    | (with_reducible refine LeO.bind ?_ (fun _ => ?_))
    | exact ih0 _ _ _ _
    | exact ih1 _ _ _ _
    | exact ih2 _ _ _ _ _ _ _ _ _
    | exact ih3 _ _ _ _ _ _ _ _ _
    | exact LeO.none _
    | refine LeO.ite ?_ ?_
    | refine LeO.bind ?_ (fun _ => ?_)
  · intro y0 y1 y2 y3 y4 y5 y6 y7 y8
    unfold spec_TrainOk.l1
    repeat' first
    | (with_reducible exact ih0 _ _ _ _)
    | (with_reducible exact ih1 _ _ _ _)
    | (with_reducible exact ih2 _ _ _ _ _ _ _ _ _)
    | (with_reducible exact ih3 _ _ _ _ _ _ _ _ _)
    | (with_reducible exact LeO.refl _)
    | (with_reducible exact LeO.none _)
    | (with_reducible refine LeO.ite ?_ ?_)
    | (with_reducible refine LeO.bind ?_ (fun _ => ?_))
    | exact ih0 _ _ _ _
    | exact ih1 _ _ _ _
    | exact ih2 _ _ _ _ _ _ _ _ _
    | exact ih3 _ _ _ _ _ _ _ _ _
    | exact LeO.none _
    | refine LeO.ite ?_ ?_
    | refine LeO.bind ?_ (fun _ => ?_)
theorem spec_TrainOk.mono : ∀ a0 a1 a2 k, LeO (spec_TrainOk.f k a0 a1 a2) (spec_TrainOk.f (k + 1) a0 a1 a2) := by
 intro a0 a1 a2 k
 obtain ⟨ih0, ih1, ih2, ih3⟩ := spec_TrainOk.mono_l k
 unfold spec_TrainOk.f
 repeat' first
  | (with_reducible exact ih0 _ _ _ _)
  | (with_reducible exact ih1 _ _ _ _)
  | (with_reducible exact ih2 _ _ _ _ _ _ _ _ _)
  | (with_reducible exact ih3 _ _ _ _ _ _ _ _ _)
  | (with_reducible exact LeO.refl _)
  | (with_reducible exact LeO.none _)
  | (with_reducible refine LeO.ite ?_ ?_)
  | (with_reducible refine LeO.bind ?_ (fun _ => ?_))
  | exact ih0 _ _ _ _
  | exact ih1 _ _ _ _
  | exact ih2 _ _ _ _ _ _ _ _ _
  | exact ih3 _ _ _ _ _ _ _ _ _
  | exact LeO.none _
  | refine LeO.ite ?_ ?_
  | refine LeO.bind ?_ (fun _ => ?_)
def spec_TrainOk.T7 : Bool × List (List Nat × List Nat) := (true, [([], []), ([0], [0]), ([1], [1]), ([2], [2]), ([3], [3]), ([4, 3], [3, 4]), ([5, 3, 3], [3, 5]), ([6], [6]), ([7, 6], [6, 7]), ([6], [6]), ([9, 6], [6, 9]), ([8, 10, 6], [6, 8, 10]), ([11, 6], [6, 11]), ([12, 6], [6, 12]), ([6], [6]), ([14, 6], [6, 14]), ([13, 15, 6], [6, 13, 15]), ([6, 16, 3], [3, 6, 16]), ([3, 17], [3, 17]), ([18, 6], [18]), ([19], [19]), ([20, 19], [19, 20]), ([19], [19]), ([22, 19], [19, 22]), ([23, 19], [19, 23]), ([21, 24, 19, 19], [19, 21, 24]), ([25, 19], [19, 25]), ([19, 26], [19, 26]), ([27, 25], [27]), ([28], [28]), ([29, 28], [28, 29]), ([28], [28]), ([31, 28], [28, 31]), ([30, 32, 28, 28], [28, 30, 32]), ([33, 28], [28, 33]), ([28, 34], [28, 34]), ([35, 33], [35]), ([36], [36]), ([37, 36], [36, 37]), ([36], [36]), ([39, 36], [36, 39]), ([40, 36], [36, 40]), ([38, 41, 36, 36], [36, 38, 41]), ([42, 36], [36, 42]), ([36, 43], [36, 43])])
def spec_TrainOk.B7 : List Nat := [0, 1, 3, 7, 15, 31, 63, 127, 255, 127, 639, 2047, 4095, 8191, 127, 16511, 65535, 131071, 262143, 524287, 1048575, 2097151, 1048575, 5242879, 13631487, 33554431, 67108863, 134217727, 268435455, 536870911, 1073741823, 536870911, 2684354559, 8589934591, 17179869183, 34359738367, 68719476735, 137438953471, 274877906943, 137438953471, 687194767359, 1786706395135, 4398046511103, 8796093022207, 17592186044415]
theorem spec_TrainOk.tab7 : rtab .any (opsOf Try.f13 7) = spec_TrainOk.T7 := by kernel_rfl
theorem spec_TrainOk.bits7 : waitsOk spec_TrainOk.T7.2 spec_TrainOk.B7 = true := by kernel_rfl
set_option maxHeartbeats 8000000 in
set_option maxRecDepth 100000 in
theorem spec_TrainOk.calls (k : Nat) (a0_0 : Int) (a0_1 : Int) (A0_2 : Option Addr) (c0_2 : Nat) (l0_2 : List (S66)) (r : Bool) (w : World) (hr0_2 : Kd.C k66 w A0_2 l0_2.length l0_2) (hc0_2 : l0_2.length ≤ c0_2) (h : spec_TrainOk.f k a0_0 a0_1 l0_2 = some r) :
 Calls Try.prog 13 #[.agg #[.int .i64 a0_0, .int .i64 a0_1, .slice A0_2 l0_2.length c0_2]] w fun e w' => e = .returned (.bool r) ∧ Below w.heap.size w w' := by
 have hu29 := Try.underlying29; have hu66 := Try.underlying66
 have HR0_2 := aM hr0_2
 have HC0_2 := aM hc0_2
 clear hr0_2 hc0_2
 have HB := aM (Below.refl w.heap.size w)
 have H : ((spec_l01In.f a0_0 1 60).bind fun t166 => (if t166 = true then ((spec_l01In.f a0_1 1 11).bind fun t167 => (if t167 = true then (spec_TrainOk.j0 k (decide ((l0_2.length : Int) > 200)) a0_0 a0_1 l0_2) else (spec_TrainOk.j0 k true a0_0 a0_1 l0_2))) else (spec_TrainOk.j0 k true a0_0 a0_1 l0_2))) = some r := h
 clear h
 have HC2 := aM H
 clear H
 go_enter Try.func13, Try.ntmps13
 go_upto_region 1 with (first | ((with_reducible refine gate_dst (N := 1) rfl ?_); (try (refine gate_guard (by rfl) ?_; dsimp only)); refine box_event ?hg (N := 1) ?hd (cs := #[.int .i64 a0_0, .int .i64 a0_1, .slice A0_2 l0_2.length c0_2]) (t := 29) ?hr ?_; (case hd => rfl); (case hg => rfl); (case hr => first | (go_simp; done) | (go_simp; rfl)); intro gb165 hg w3 hbox hb; have n_ := aA (below_step (nH HB.out) hb) <| aA (hbox) <| aA (bS hg (nH HB.out)) <| aM (bS hg (nH HB.out)); clear HB; obtain ⟨HB, BK165, GW165, GE165⟩ := n_; clear hb hbox hg))
 (try simp only [Act.put, List.setIfInBounds_toArray, List.set_cons_zero, List.set_cons_succ])
 go_cut [22] (fun v22 wc => ∃ (kq : Nat) (x22_1 : Bool), v22 = .bool x22_1 ∧ Aside0 (spec_TrainOk.j0 kq x22_1 a0_0 a0_1 l0_2 = some r) ∧ Aside0 (kq ≤ k) ∧ Aside0 (wc.heap[gb165]? = some (.cells #[.int .i64 a0_0, .int .i64 a0_1, (.slice A0_2 l0_2.length c0_2)] 29 (0, 0))) ∧ Aside0 (Below w.heap.size w wc))
 case first =>
  have H := HC2.out; clear HC2
  obtain ⟨t166, A40, H⟩ := Option.bind_eq_some_iff.mp H
  have A4 := aM A40
  clear A40
  by_cases c5 : t166 = true
  · subst c5
    rw [if_pos rfl] at H
    obtain ⟨t167, A60, H⟩ := Option.bind_eq_some_iff.mp H
    have A6 := aM A60
    clear A60
    by_cases c7 : t167 = true
    · subst c7
      rw [if_pos rfl] at H
      have H' := aM H
      clear H
      obtain ⟨hcz8_0, hcz8_1, hcz8_2, hfz8_0, hfz8_1, hfz8_2⟩ := nK3 BK165.out
      go_wp2_with (first | ((with_reducible refine gate_callee (f := 45) rfl ?_); refine goesL_ (some 9) rfl rfl Try.func45 (by kernel_rfl) rfl #[.int .i64 a0_0, .int .i64 1, .int .i64 60] rfl nM ?_; (with_reducible refine (spec_l01In.calls a0_0 1 60 true _ A4.out).mono ?_); rintro e w' ⟨rfl, ⟨nd, rfl⟩⟩; refine ⟨_, rfl, ?_⟩) | (go_at_call 45; (with_reducible refine (spec_l01In.calls a0_1 1 11 true _ A6.out).mono ?_); rintro e w' ⟨rfl, ⟨nd, rfl⟩⟩))
      go_meet
      case rel => exact ⟨_, (decide ((l0_2.length : Int) > 200)), nS, H', ⟨by first | omega | exact Nat.le_refl _⟩, ⟨by exact nB BK165.out⟩, ⟨nH1 HB.out GE165.out⟩⟩
    · replace c7 := Bool.eq_false_iff.mpr c7
      subst c7
      rw [if_neg nN] at H
      have H' := aM H
      clear H
      obtain ⟨hcz9_0, hcz9_1, hcz9_2, hfz9_0, hfz9_1, hfz9_2⟩ := nK3 BK165.out
      go_wp2_with (first | ((with_reducible refine gate_callee (f := 45) rfl ?_); refine goesL_ (some 9) rfl rfl Try.func45 (by kernel_rfl) rfl #[.int .i64 a0_0, .int .i64 1, .int .i64 60] rfl nM ?_; (with_reducible refine (spec_l01In.calls a0_0 1 60 true _ A4.out).mono ?_); rintro e w' ⟨rfl, ⟨nd, rfl⟩⟩; refine ⟨_, rfl, ?_⟩) | (go_at_call 45; (with_reducible refine (spec_l01In.calls a0_1 1 11 false _ A6.out).mono ?_); rintro e w' ⟨rfl, ⟨nd, rfl⟩⟩))
      go_meet
      case rel => exact ⟨_, (true), nS, H', ⟨by first | omega | exact Nat.le_refl _⟩, ⟨by exact nB BK165.out⟩, ⟨nH1 HB.out GE165.out⟩⟩
  · replace c5 := Bool.eq_false_iff.mpr c5
    subst c5
    rw [if_neg nN] at H
    have H' := aM H
    clear H
    obtain ⟨hcz10_0, hcz10_1, hcz10_2, hfz10_0, hfz10_1, hfz10_2⟩ := nK3 BK165.out
    go_wp2_with (first | ((with_reducible refine gate_callee (f := 45) rfl ?_); refine goesL_ (some 9) rfl rfl Try.func45 (by kernel_rfl) rfl #[.int .i64 a0_0, .int .i64 1, .int .i64 60] rfl nM ?_; (with_reducible refine (spec_l01In.calls a0_0 1 60 false _ A4.out).mono ?_); rintro e w' ⟨rfl, ⟨nd, rfl⟩⟩; refine ⟨_, rfl, ?_⟩))
    go_meet
    case rel => exact ⟨_, (true), nS, H', ⟨by first | omega | exact Nat.le_refl _⟩, ⟨by exact nB BK165.out⟩, ⟨nH1 HB.out GE165.out⟩⟩
 case rest =>
  clear HC2; try clear c1; try clear p2; try clear c4; try clear c5; try clear c7; try clear hcz10_0; try clear hcz10_1; try clear hcz10_2; try clear hcz8_0; try clear hcz8_1; try clear hcz8_2; try clear hcz9_0; try clear hcz9_1; try clear hcz9_2; try clear hfz10_0; try clear hfz10_1; try clear hfz10_2; try clear hfz8_0; try clear hfz8_1; try clear hfz8_2; try clear hfz9_0; try clear hfz9_1; try clear hfz9_2
  obtain ⟨kq, x22_1, rfl, HA, HJ1, BK165, HB⟩ := hcut
  cases kq with
  | zero => exact absurd HA.out (by simp [spec_TrainOk.j0])
  | succ kj1 =>
   have H := HA.out; clear HA
   simp only [spec_TrainOk.j0] at H
   by_cases c11 : x22_1 = true
   · subst c11
     rw [if_pos rfl] at H; obtain rfl := Option.some.inj H; go_wp2; go_ret
     exact ⟨by first | rfl | (simp [errW_none, errW_some] <;> rfl) | (simp [*, errW_none, errW_some] <;> first | rfl | (simp [wrap64]; done)), nH1 HB.out GE165.out⟩
   · replace c11 := Bool.eq_false_iff.mpr c11
     subst c11
     rw [if_neg nN] at H
     have H' := aM H
     clear H; go_wp2
     go_loopg [3] kj1 (fun kq v3 w' => ∃ (x3_2 : Int), v3 = .int .i64 x3_2 ∧ Aside0 (spec_TrainOk.l0 kq x3_2 a0_0 a0_1 l0_2 = some r) ∧ Aside0 (kq ≤ kj1) ∧ Aside0 (w'.heap[gb165]? = some (.cells #[.int .i64 a0_0, .int .i64 a0_1, (.slice A0_2 l0_2.length c0_2)] 29 (0, 0))) ∧ Aside0 (Below w.heap.size w w'))
     case atStart => exact ⟨(0), nS, H', ⟨Nat.le_refl _⟩, ⟨by exact nB BK165.out⟩, ⟨nH1 HB.out GE165.out⟩⟩
     case round =>
      clear H'
      try clear c1; try clear p2; try clear c4; try clear c5; try clear p6; try clear c7; try clear c11; try clear hcz10_0; try clear hcz10_1; try clear hcz10_2; try clear hcz8_0; try clear hcz8_1; try clear hcz8_2; try clear hcz9_0; try clear hcz9_1; try clear hcz9_2; try clear hfz10_0; try clear hfz10_1; try clear hfz10_2; try clear hfz8_0; try clear hfz8_1; try clear hfz8_2; try clear hfz9_0; try clear hfz9_1; try clear hfz9_2; try clear p2
      obtain ⟨x3_2, rfl, HA, HK2, BK165, HB⟩ := hrel
      cases gk with
      | zero => exact absurd HA.out (by simp [spec_TrainOk.l0])
      | succ k2 =>
       have H := HA.out; clear HA
       simp only [spec_TrainOk.l0] at H
       by_cases c12 : x3_2 < (l0_2.length : Int)
       · rw [if_pos c12] at H
         have c12b0 : decide (x3_2 < (l0_2.length : Int)) = true := decide_eq_true c12
         clear c12
         by_cases c13 : 0 ≤ x3_2
         rotate_left
         · (rw [if_neg c13] at H; exact absurd H (by simp))
         rw [if_pos c13] at H
         have c13b0 : decide (0 ≤ x3_2) = true := decide_eq_true c13
         clear c13
         have HC14 := aM H
         clear H
         obtain ⟨hcz15_0, hcz15_1, hcz15_2, hfz15_0, hfz15_1, hfz15_2⟩ := nK3 BK165.out
         have p168 : 0 ≤ (x3_2 : Int) := of_decide_eq_true nQ
         have q168 : x3_2 < (l0_2.length : Int) := of_decide_eq_true nQ
         obtain ⟨ad168, e168, hx168_0, hx168_1, hx168_2, hx168_3⟩ := at_T66 HR0_2.out x3_2 p168 q168
         cases e168
         replace hx168_0 := (HB.out.cell (World.block_lt_of_cell? w _ hx168_0)).trans hx168_0
         replace hx168_1 := (HB.out.cell (World.block_lt_of_cell? w _ hx168_1)).trans hx168_1
         replace hx168_2 := (HB.out.cell (World.block_lt_of_cell? w _ hx168_2)).trans hx168_2
         replace hx168_3 := (HB.out.cell (World.block_lt_of_cell? w _ hx168_3)).trans hx168_3
         replace p168 := eq_true p168; replace q168 := eq_true q168
         go_upto_region 7 with (first | ((with_reducible refine gate_dst (N := 4) rfl ?_); (try (refine gate_guard (by rfl) ?_; dsimp only)); refine box_event ?hg (N := 4) ?hd (cs := #[.int .i64 0, .int .i64 0, .int .i64 0, .int .i64 0]) (t := 66) ?hr ?_; (case hd => rfl); (case hg => rfl); (case hr => first | (go_simp; done) | (go_simp; rfl)); intro gb169 hg w16 hbox hb; have n_ := aA (nBB BK165.out hb) <| aA (below_step (nH1 HB.out GE165.out) hb) <| aA (hbox) <| aA (bS hg (nH1 HB.out GE165.out)) <| aA (bS hg (nH1 HB.out GE165.out)) <| aA (nBL BK165.out hg) <| aM (by rw [hg]; exact Nat.ne_of_gt (blk_lt (g := gb165) (o := .cells #[.int .i64 a0_0, .int .i64 a0_1, .slice (some ad168) l0_2.length c0_2] 29 (0, 0)) (nB BK165.out)) : gb169 ≠ gb165); clear BK165 HB; obtain ⟨BK165, HB, BK169, GW169, GE169, NB165_169, NB169_165⟩ := n_; clear hb hbox hg; have hnb17 := NB169_165.out; have hnc17 := NB165_169.out; obtain ⟨hcz18_0, hcz18_1, hcz18_2, hcz18_3, hfz18_0, hfz18_1, hfz18_2, hfz18_3⟩ := nK4 BK169.out))
         (try simp only [Act.put, List.setIfInBounds_toArray, List.set_cons_zero, List.set_cons_succ])
         go_cut [79] (fun v79 wc => ∃ (kq : Nat) (x79_13 : Bool), v79 = .bool x79_13 ∧ Aside0 (spec_TrainOk.j2 kq x3_2 x79_13 a0_0 a0_1 l0_2 ((rd_T66 l0_2 x3_2).f0) ((rd_T66 l0_2 x3_2).f1) ((rd_T66 l0_2 x3_2).f2) ((rd_T66 l0_2 x3_2).f3) = some r) ∧ Aside0 (kq ≤ k2) ∧ Aside0 (wc.heap[gb165]? = some (.cells #[.int .i64 a0_0, .int .i64 a0_1, (.slice (some ad168) l0_2.length c0_2)] 29 (0, 0))) ∧ Aside0 (wc.heap[gb169]? = some (.cells #[.int .i64 ((rd_T66 l0_2 x3_2).f0), .int .i64 ((rd_T66 l0_2 x3_2).f1), .int .i64 ((rd_T66 l0_2 x3_2).f2), .int .i64 ((rd_T66 l0_2 x3_2).f3)] 66 (0, 0))) ∧ Aside0 (Below w.heap.size w wc))
         case first =>
          have H := HC14.out; clear HC14
          by_cases c19 : ((rd_T66 l0_2 x3_2).f0) ≤ 0
          · rw [if_pos c19] at H
            have c19b0 : decide (((rd_T66 l0_2 x3_2).f0) ≤ 0) = true := decide_eq_true c19
            clear c19
            (first | rw [c19b0] | (simp only [i64_w, i32_w]; rw [c19b0]) | skip)
            have H' := aM H
            clear H
            try go_wp2
            have n0_ : Aside0 (((((w16.setCell ⟨gb169, 0, none⟩ (.int .i64 ((rd_T66 l0_2 x3_2).f0))).setCell ⟨gb169, 1, none⟩ (.int .i64 ((rd_T66 l0_2 x3_2).f1))).setCell ⟨gb169, 2, none⟩ (.int .i64 ((rd_T66 l0_2 x3_2).f2))).setCell ⟨gb169, 3, none⟩ (.int .i64 ((rd_T66 l0_2 x3_2).f3))).heap[gb165]? = some (.cells #[.int .i64 a0_0, .int .i64 a0_1, .slice (some ad168) l0_2.length c0_2] 29 (0, 0))) := ⟨by refine nE ?_; refine blk_far ?_ NB165_169.out _; refine nE ?_; refine blk_far ?_ NB165_169.out _; refine nE ?_; refine blk_far ?_ NB165_169.out _; refine nE ?_; refine blk_far ?_ NB165_169.out _; exact nB BK165.out⟩
            have n1_ : Aside0 (((((w16.setCell ⟨gb169, 0, none⟩ (.int .i64 ((rd_T66 l0_2 x3_2).f0))).setCell ⟨gb169, 1, none⟩ (.int .i64 ((rd_T66 l0_2 x3_2).f1))).setCell ⟨gb169, 2, none⟩ (.int .i64 ((rd_T66 l0_2 x3_2).f2))).setCell ⟨gb169, 3, none⟩ (.int .i64 ((rd_T66 l0_2 x3_2).f3))).heap[gb169]? = some (.cells #[.int .i64 ((rd_T66 l0_2 x3_2).f0), .int .i64 ((rd_T66 l0_2 x3_2).f1), .int .i64 ((rd_T66 l0_2 x3_2).f2), .int .i64 ((rd_T66 l0_2 x3_2).f3)] 66 (0, 0))) := ⟨by refine nE ?_; refine blk_put (cs := #[.int .i64 ((rd_T66 l0_2 x3_2).f0), .int .i64 ((rd_T66 l0_2 x3_2).f1), .int .i64 ((rd_T66 l0_2 x3_2).f2), .int .i64 0]) ?_ 3 _ rfl; refine nE ?_; refine blk_put (cs := #[.int .i64 ((rd_T66 l0_2 x3_2).f0), .int .i64 ((rd_T66 l0_2 x3_2).f1), .int .i64 0, .int .i64 0]) ?_ 2 _ rfl; refine nE ?_; refine blk_put (cs := #[.int .i64 ((rd_T66 l0_2 x3_2).f0), .int .i64 0, .int .i64 0, .int .i64 0]) ?_ 1 _ rfl; refine nE ?_; refine blk_put (cs := #[.int .i64 0, .int .i64 0, .int .i64 0, .int .i64 0]) ?_ 0 _ rfl; exact nB BK169.out⟩
            have n2_ : Aside0 (Below w.heap.size w ((((w16.setCell ⟨gb169, 0, none⟩ (.int .i64 ((rd_T66 l0_2 x3_2).f0))).setCell ⟨gb169, 1, none⟩ (.int .i64 ((rd_T66 l0_2 x3_2).f1))).setCell ⟨gb169, 2, none⟩ (.int .i64 ((rd_T66 l0_2 x3_2).f2))).setCell ⟨gb169, 3, none⟩ (.int .i64 ((rd_T66 l0_2 x3_2).f3)))) := ⟨nH2 HB.out GE165.out GE169.out⟩
            (try clear BK165); (try clear BK169); (try clear HB)
            generalize ((((w16.setCell ⟨gb169, 0, none⟩ (.int .i64 ((rd_T66 l0_2 x3_2).f0))).setCell ⟨gb169, 1, none⟩ (.int .i64 ((rd_T66 l0_2 x3_2).f1))).setCell ⟨gb169, 2, none⟩ (.int .i64 ((rd_T66 l0_2 x3_2).f2))).setCell ⟨gb169, 3, none⟩ (.int .i64 ((rd_T66 l0_2 x3_2).f3))) = w20 at n0_ n1_ n2_ ⊢
            have BK165 := n0_; have BK169 := n1_; have HB := n2_; clear n0_ n1_ n2_
            have n_ := aA (blk_drew BK165.out) <| aA (blk_drew BK169.out) <| aM (below_drew1 HB.out); clear BK165 BK169 HB; obtain ⟨BK165, BK169, HB⟩ := n_
            refine start_ (n := 45) (S := fun w' => w'.cell? ⟨gb169, 0, none⟩ = some (.int .i64 ((rd_T66 l0_2 x3_2).f0)) ∧ w'.cell? ⟨gb169, 1, none⟩ = some (.int .i64 ((rd_T66 l0_2 x3_2).f1)) ∧ w'.cell? ⟨gb169, 2, none⟩ = some (.int .i64 ((rd_T66 l0_2 x3_2).f2)) ∧ w'.cell? ⟨gb169, 3, none⟩ = some (.int .i64 ((rd_T66 l0_2 x3_2).f3))) (ds := []) #[F,F,F,F,F,F,F,F,F,F,F,F,F,F,F,F,F,F,F,F,F,F,F,F,F,F,F,F,F,F,F,F,F,F,F,F,F,F,F,F,F,F,F,F,F] (by kernel_rfl) rfl rfl ⟨(blk_cell BK169.out 0).trans rfl, (blk_cell BK169.out 1).trans rfl, (blk_cell BK169.out 2).trans rfl, (blk_cell BK169.out 3).trans rfl⟩ (fun hHeld => ?_); refine with_tabW spec_TrainOk.tab7 spec_TrainOk.bits7 (fun HT_ HW_ => ?_)
            generalize w20.drew = w21 at BK165 BK169 HB hHeld ⊢
            refine qU 0 (some 35) rfl rfl HT_.out ?_
            refine qT4 1 (some 36) rfl rfl HT_.out HW_.out hHeld ?_
            refine qU 2 (some 37) rfl rfl HT_.out ?_
            refine qU 3 (some 38) rfl rfl HT_.out ?_
            refine qV 4 (some 39) rfl rfl HT_.out ?_
            refine qV 5 (some 40) rfl rfl HT_.out ?_
            refine qV 6 (some 41) rfl rfl HT_.out ?_
            refine qV 7 (some 42) rfl rfl HT_.out ?_
            refine qV 8 (some 43) rfl rfl HT_.out ?_
            refine qV 9 (some 44) rfl rfl HT_.out ?_
            refine qV 10 (some 45) rfl rfl HT_.out ?_
            refine qV 11 (some 46) rfl rfl HT_.out ?_
            refine qV 12 (some 47) rfl rfl HT_.out ?_
            refine qV 13 (some 48) rfl rfl HT_.out ?_
            refine qV 14 (some 49) rfl rfl HT_.out ?_
            refine qV 15 (some 50) rfl rfl HT_.out ?_
            refine qV 16 (some 51) rfl rfl HT_.out ?_
            refine qV 17 (some 52) rfl rfl HT_.out ?_
            refine qU 18 (some 53) rfl rfl HT_.out ?_
            refine qU 19 (some 54) rfl rfl HT_.out ?_
            refine qV 20 (some 55) rfl rfl HT_.out ?_
            refine qV 21 (some 56) rfl rfl HT_.out ?_
            refine qV 22 (some 57) rfl rfl HT_.out ?_
            refine qV 23 (some 58) rfl rfl HT_.out ?_
            refine qV 24 (some 59) rfl rfl HT_.out ?_
            refine qV 25 (some 60) rfl rfl HT_.out ?_
            refine qV 26 (some 61) rfl rfl HT_.out ?_
            refine qU 27 (some 62) rfl rfl HT_.out ?_
            refine qU 28 (some 63) rfl rfl HT_.out ?_
            refine qV 29 (some 64) rfl rfl HT_.out ?_
            refine qV 30 (some 65) rfl rfl HT_.out ?_
            refine qV 31 (some 66) rfl rfl HT_.out ?_
            refine qV 32 (some 67) rfl rfl HT_.out ?_
            refine qV 33 (some 68) rfl rfl HT_.out ?_
            refine qV 34 (some 69) rfl rfl HT_.out ?_
            refine qU 35 (some 70) rfl rfl HT_.out ?_
            refine qU 36 (some 71) rfl rfl HT_.out ?_
            refine qV 37 (some 72) rfl rfl HT_.out ?_
            refine qV 38 (some 73) rfl rfl HT_.out ?_
            refine qV 39 (some 74) rfl rfl HT_.out ?_
            refine qV 40 (some 75) rfl rfl HT_.out ?_
            refine qV 41 (some 76) rfl rfl HT_.out ?_
            refine qV 42 (some 77) rfl rfl HT_.out ?_
            refine qV 43 (some 78) rfl rfl HT_.out ?_
            refine qU 44 (some 79) rfl rfl HT_.out ?_
            refine done_ (done_of HT_.out (by kernel_rfl)) ?_
            try go_wp2
            go_meet
            case rel => exact ⟨_, (true), nS, H', ⟨by have := HJ1.out; have := HK2.out; first | omega | exact Nat.le_refl _⟩, ⟨by exact nB BK165.out⟩, ⟨by exact nB BK169.out⟩, ⟨nH2 HB.out GE165.out GE169.out⟩⟩
          · rw [if_neg c19] at H
            have c19b0 : decide (((rd_T66 l0_2 x3_2).f0) ≤ 0) = false := decide_eq_false c19
            clear c19
            (first | rw [c19b0] | (simp only [i64_w, i32_w]; rw [c19b0]) | skip)
            by_cases c22 : x3_2 > 0
            · rw [if_pos c22] at H
              have c22b0 : decide (0 < x3_2) = true := decide_eq_true c22
              clear c22
              obtain ⟨ji23, hji23⟩ : ∃ j_ : Int, (wrap64 (x3_2 - 1)) = j_ := ⟨_, rfl⟩
              replace H : (if 0 ≤ (ji23) then (if (ji23) < (l0_2.length : Int) then (if ((rd_T66 l0_2 (ji23)).f0) ≥ ((rd_T66 l0_2 x3_2).f0) then (spec_TrainOk.j2 k2 x3_2 true a0_0 a0_1 l0_2 ((rd_T66 l0_2 x3_2).f0) ((rd_T66 l0_2 x3_2).f1) ((rd_T66 l0_2 x3_2).f2) ((rd_T66 l0_2 x3_2).f3)) else ((spec_l01In.f ((rd_T66 l0_2 x3_2).f1) 0 (wrap64 (a0_0 - 1))).bind fun t171 => (if t171 = true then ((spec_l01In.f ((rd_T66 l0_2 x3_2).f3) 1 a0_1).bind fun t172 => (if t172 = true then ((spec_l01In.f ((rd_T66 l0_2 x3_2).f2) 0 (wrap64 (((rd_T66 l0_2 x3_2).f3) - 1))).bind fun t173 => (spec_TrainOk.j2 k2 x3_2 (!t173) a0_0 a0_1 l0_2 ((rd_T66 l0_2 x3_2).f0) ((rd_T66 l0_2 x3_2).f1) ((rd_T66 l0_2 x3_2).f2) ((rd_T66 l0_2 x3_2).f3))) else (spec_TrainOk.j2 k2 x3_2 true a0_0 a0_1 l0_2 ((rd_T66 l0_2 x3_2).f0) ((rd_T66 l0_2 x3_2).f1) ((rd_T66 l0_2 x3_2).f2) ((rd_T66 l0_2 x3_2).f3)))) else (spec_TrainOk.j2 k2 x3_2 true a0_0 a0_1 l0_2 ((rd_T66 l0_2 x3_2).f0) ((rd_T66 l0_2 x3_2).f1) ((rd_T66 l0_2 x3_2).f2) ((rd_T66 l0_2 x3_2).f3))))) else (none)) else (none)) = some r := by first | (rw [hji23] at H; exact H) | (simp only [hji23] at H ⊢; exact H)
              have hji23w : (IntKind.i64.wrap (x3_2 - 1)) = ji23 := (i64_w _).trans hji23
              by_cases c24 : 0 ≤ (ji23)
              rotate_left
              · (rw [if_neg c24] at H; exact absurd H (by simp))
              rw [if_pos c24] at H
              have c24b0 : decide (0 ≤ (ji23)) = true := decide_eq_true c24
              clear c24
              by_cases c25 : (ji23) < (l0_2.length : Int)
              rotate_left
              · (rw [if_neg c25] at H; exact absurd H (by simp))
              rw [if_pos c25] at H
              have c25b0 : decide ((ji23) < (l0_2.length : Int)) = true := decide_eq_true c25
              clear c25
              by_cases c26 : ((rd_T66 l0_2 (ji23)).f0) ≥ ((rd_T66 l0_2 x3_2).f0)
              · rw [if_pos c26] at H
                have c26b0 : decide (((rd_T66 l0_2 x3_2).f0) ≤ ((rd_T66 l0_2 (ji23)).f0)) = true := decide_eq_true c26
                clear c26
                have H' := aM H
                clear H
                try go_wp2
                have n0_ : Aside0 (((((w16.setCell ⟨gb169, 0, none⟩ (.int .i64 ((rd_T66 l0_2 x3_2).f0))).setCell ⟨gb169, 1, none⟩ (.int .i64 ((rd_T66 l0_2 x3_2).f1))).setCell ⟨gb169, 2, none⟩ (.int .i64 ((rd_T66 l0_2 x3_2).f2))).setCell ⟨gb169, 3, none⟩ (.int .i64 ((rd_T66 l0_2 x3_2).f3))).heap[gb165]? = some (.cells #[.int .i64 a0_0, .int .i64 a0_1, .slice (some ad168) l0_2.length c0_2] 29 (0, 0))) := ⟨by refine nE ?_; refine blk_far ?_ NB165_169.out _; refine nE ?_; refine blk_far ?_ NB165_169.out _; refine nE ?_; refine blk_far ?_ NB165_169.out _; refine nE ?_; refine blk_far ?_ NB165_169.out _; exact nB BK165.out⟩
                have n1_ : Aside0 (((((w16.setCell ⟨gb169, 0, none⟩ (.int .i64 ((rd_T66 l0_2 x3_2).f0))).setCell ⟨gb169, 1, none⟩ (.int .i64 ((rd_T66 l0_2 x3_2).f1))).setCell ⟨gb169, 2, none⟩ (.int .i64 ((rd_T66 l0_2 x3_2).f2))).setCell ⟨gb169, 3, none⟩ (.int .i64 ((rd_T66 l0_2 x3_2).f3))).heap[gb169]? = some (.cells #[.int .i64 ((rd_T66 l0_2 x3_2).f0), .int .i64 ((rd_T66 l0_2 x3_2).f1), .int .i64 ((rd_T66 l0_2 x3_2).f2), .int .i64 ((rd_T66 l0_2 x3_2).f3)] 66 (0, 0))) := ⟨by refine nE ?_; refine blk_put (cs := #[.int .i64 ((rd_T66 l0_2 x3_2).f0), .int .i64 ((rd_T66 l0_2 x3_2).f1), .int .i64 ((rd_T66 l0_2 x3_2).f2), .int .i64 0]) ?_ 3 _ rfl; refine nE ?_; refine blk_put (cs := #[.int .i64 ((rd_T66 l0_2 x3_2).f0), .int .i64 ((rd_T66 l0_2 x3_2).f1), .int .i64 0, .int .i64 0]) ?_ 2 _ rfl; refine nE ?_; refine blk_put (cs := #[.int .i64 ((rd_T66 l0_2 x3_2).f0), .int .i64 0, .int .i64 0, .int .i64 0]) ?_ 1 _ rfl; refine nE ?_; refine blk_put (cs := #[.int .i64 0, .int .i64 0, .int .i64 0, .int .i64 0]) ?_ 0 _ rfl; exact nB BK169.out⟩
                have n2_ : Aside0 (Below w.heap.size w ((((w16.setCell ⟨gb169, 0, none⟩ (.int .i64 ((rd_T66 l0_2 x3_2).f0))).setCell ⟨gb169, 1, none⟩ (.int .i64 ((rd_T66 l0_2 x3_2).f1))).setCell ⟨gb169, 2, none⟩ (.int .i64 ((rd_T66 l0_2 x3_2).f2))).setCell ⟨gb169, 3, none⟩ (.int .i64 ((rd_T66 l0_2 x3_2).f3)))) := ⟨nH2 HB.out GE165.out GE169.out⟩
                (try clear BK165); (try clear BK169); (try clear HB)
                generalize ((((w16.setCell ⟨gb169, 0, none⟩ (.int .i64 ((rd_T66 l0_2 x3_2).f0))).setCell ⟨gb169, 1, none⟩ (.int .i64 ((rd_T66 l0_2 x3_2).f1))).setCell ⟨gb169, 2, none⟩ (.int .i64 ((rd_T66 l0_2 x3_2).f2))).setCell ⟨gb169, 3, none⟩ (.int .i64 ((rd_T66 l0_2 x3_2).f3))) = w27 at n0_ n1_ n2_ ⊢
                have BK165 := n0_; have BK169 := n1_; have HB := n2_; clear n0_ n1_ n2_
                have n_ := aA (blk_drew BK165.out) <| aA (blk_drew BK169.out) <| aM (below_drew1 HB.out); clear BK165 BK169 HB; obtain ⟨BK165, BK169, HB⟩ := n_
                have p170 : 0 ≤ ((ji23) : Int) := of_decide_eq_true nQ
                have q170 : (ji23) < (l0_2.length : Int) := of_decide_eq_true nQ
                obtain ⟨ad170, e170, hx170_0, hx170_1, hx170_2, hx170_3⟩ := at_T66 HR0_2.out (ji23) p170 q170
                have hw170_3 := hx170_3; have hw170_2 := hx170_2; have hw170_1 := hx170_1; have hw170_0 := hx170_0
                obtain rfl : ad168 = ad170 := (by injection e170)
                replace hx170_0 := (HB.out.cell (World.block_lt_of_cell? w _ hx170_0)).trans hx170_0
                replace hx170_1 := (HB.out.cell (World.block_lt_of_cell? w _ hx170_1)).trans hx170_1
                replace hx170_2 := (HB.out.cell (World.block_lt_of_cell? w _ hx170_2)).trans hx170_2
                replace hx170_3 := (HB.out.cell (World.block_lt_of_cell? w _ hx170_3)).trans hx170_3
                replace p170 := eq_true p170; replace q170 := eq_true q170
                refine start_ (n := 45) (S := fun w' => w'.cell? ⟨gb169, 0, none⟩ = some (.int .i64 ((rd_T66 l0_2 x3_2).f0)) ∧ w'.cell? ⟨gb169, 1, none⟩ = some (.int .i64 ((rd_T66 l0_2 x3_2).f1)) ∧ w'.cell? ⟨gb169, 2, none⟩ = some (.int .i64 ((rd_T66 l0_2 x3_2).f2)) ∧ w'.cell? ⟨gb169, 3, none⟩ = some (.int .i64 ((rd_T66 l0_2 x3_2).f3)) ∧ w'.cell? ⟨gb165, 0, none⟩ = some (.int .i64 a0_0) ∧ w'.cell? ⟨gb165, 1, none⟩ = some (.int .i64 a0_1) ∧ w'.cell? ⟨gb165, 2, none⟩ = some (.slice (some ad168) l0_2.length c0_2) ∧ w'.cell? (ad168.add (((ji23)).toNat * 4)) = some (.int .i64 ((rd_T66 l0_2 (ji23)).f0)) ∧ w'.cell? ⟨(ad168.add (((ji23)).toNat * 4)).block, (ad168.add (((ji23)).toNat * 4)).off + 1, none⟩ = some (.int .i64 ((rd_T66 l0_2 (ji23)).f1)) ∧ w'.cell? ⟨(ad168.add (((ji23)).toNat * 4)).block, (ad168.add (((ji23)).toNat * 4)).off + 2, none⟩ = some (.int .i64 ((rd_T66 l0_2 (ji23)).f2)) ∧ w'.cell? ⟨(ad168.add (((ji23)).toNat * 4)).block, (ad168.add (((ji23)).toNat * 4)).off + 3, none⟩ = some (.int .i64 ((rd_T66 l0_2 (ji23)).f3))) (ds := []) #[F,F,F,F,F,F,F,F,F,F,F,F,F,F,F,F,F,F,F,F,F,F,F,F,F,F,F,F,F,F,F,F,F,F,F,F,F,F,F,F,F,F,F,F,F] (by kernel_rfl) rfl rfl ⟨(blk_cell BK169.out 0).trans rfl, (blk_cell BK169.out 1).trans rfl, (blk_cell BK169.out 2).trans rfl, (blk_cell BK169.out 3).trans rfl, (blk_cell BK165.out 0).trans rfl, (blk_cell BK165.out 1).trans rfl, (blk_cell BK165.out 2).trans rfl, (nC HB.out hw170_0 :), (nC HB.out hw170_1 :), (nC HB.out hw170_2 :), (nC HB.out hw170_3 :)⟩ (fun hHeld => ?_); refine with_tabW spec_TrainOk.tab7 spec_TrainOk.bits7 (fun HT_ HW_ => ?_)
                generalize w27.drew = w28 at BK165 BK169 HB hx170_0 hx170_1 hx170_2 hx170_3 hHeld ⊢
                refine qU 0 (some 35) rfl rfl HT_.out ?_
                refine qT11 1 (some 36) rfl rfl HT_.out HW_.out hHeld ?_
                refine qU 2 (some 37) rfl rfl HT_.out ?_
                refine qU 3 (some 38) rfl rfl HT_.out ?_
                refine qU 4 (some 39) rfl rfl HT_.out ?_
                refine qU 5 (some 40) rfl rfl HT_.out ?_
                refine qU 6 (some 41) rfl rfl HT_.out ?_
                refine qU 7 (some 42) rfl rfl HT_.out ?_
                refine qU 9 (some 44) rfl rfl HT_.out ?_
                refine qU 10 (some 45) rfl rfl HT_.out ?_
                refine qU 14 (some 49) rfl rfl HT_.out ?_
                refine qT11 8 (some 43) rfl rfl HT_.out HW_.out hHeld ?_
                refine qU 11 (some 46) rfl rfl HT_.out ?_
                refine qU 12 (some 47) rfl rfl HT_.out ?_
                refine qT11 13 (some 48) rfl rfl HT_.out HW_.out hHeld ?_
                refine qT11 15 (some 50) rfl rfl HT_.out HW_.out hHeld ?_
                refine qU 16 (some 51) rfl rfl HT_.out ?_
                refine qU 17 (some 52) rfl rfl HT_.out ?_
                refine qU 18 (some 53) rfl rfl HT_.out ?_
                refine qU 19 (some 54) rfl rfl HT_.out ?_
                refine qV 20 (some 55) rfl rfl HT_.out ?_
                refine qV 21 (some 56) rfl rfl HT_.out ?_
                refine qV 22 (some 57) rfl rfl HT_.out ?_
                refine qV 23 (some 58) rfl rfl HT_.out ?_
                refine qV 24 (some 59) rfl rfl HT_.out ?_
                refine qV 25 (some 60) rfl rfl HT_.out ?_
                refine qV 26 (some 61) rfl rfl HT_.out ?_
                refine qU 27 (some 62) rfl rfl HT_.out ?_
                refine qU 28 (some 63) rfl rfl HT_.out ?_
                refine qV 29 (some 64) rfl rfl HT_.out ?_
                refine qV 30 (some 65) rfl rfl HT_.out ?_
                refine qV 31 (some 66) rfl rfl HT_.out ?_
                refine qV 32 (some 67) rfl rfl HT_.out ?_
                refine qV 33 (some 68) rfl rfl HT_.out ?_
                refine qV 34 (some 69) rfl rfl HT_.out ?_
                refine qU 35 (some 70) rfl rfl HT_.out ?_
                refine qU 36 (some 71) rfl rfl HT_.out ?_
                refine qV 37 (some 72) rfl rfl HT_.out ?_
                refine qV 38 (some 73) rfl rfl HT_.out ?_
                refine qV 39 (some 74) rfl rfl HT_.out ?_
                refine qV 40 (some 75) rfl rfl HT_.out ?_
                refine qV 41 (some 76) rfl rfl HT_.out ?_
                refine qV 42 (some 77) rfl rfl HT_.out ?_
                refine qV 43 (some 78) rfl rfl HT_.out ?_
                refine qU 44 (some 79) rfl rfl HT_.out ?_
                refine done_ (done_of HT_.out (by kernel_rfl)) ?_
                try go_wp2
                go_meet
                case rel => exact ⟨_, (true), nS, H', ⟨by have := HJ1.out; have := HK2.out; first | omega | exact Nat.le_refl _⟩, ⟨by exact nB BK165.out⟩, ⟨by exact nB BK169.out⟩, ⟨nH2 HB.out GE165.out GE169.out⟩⟩
              · rw [if_neg c26] at H
                have c26b0 : decide (((rd_T66 l0_2 x3_2).f0) ≤ ((rd_T66 l0_2 (ji23)).f0)) = false := decide_eq_false c26
                clear c26
                obtain ⟨t171, A290, H⟩ := Option.bind_eq_some_iff.mp H
                have A29 := aM A290
                clear A290
                by_cases c30 : t171 = true
                · subst c30
                  rw [if_pos rfl] at H
                  obtain ⟨t172, A310, H⟩ := Option.bind_eq_some_iff.mp H
                  have A31 := aM A310
                  clear A310
                  by_cases c32 : t172 = true
                  · subst c32
                    rw [if_pos rfl] at H
                    obtain ⟨t173, A330, H⟩ := Option.bind_eq_some_iff.mp H
                    have A33 := aM A330
                    clear A330
                    have H' := aM H
                    clear H
                    try go_wp2
                    have n0_ : Aside0 (((((w16.setCell ⟨gb169, 0, none⟩ (.int .i64 ((rd_T66 l0_2 x3_2).f0))).setCell ⟨gb169, 1, none⟩ (.int .i64 ((rd_T66 l0_2 x3_2).f1))).setCell ⟨gb169, 2, none⟩ (.int .i64 ((rd_T66 l0_2 x3_2).f2))).setCell ⟨gb169, 3, none⟩ (.int .i64 ((rd_T66 l0_2 x3_2).f3))).heap[gb165]? = some (.cells #[.int .i64 a0_0, .int .i64 a0_1, .slice (some ad168) l0_2.length c0_2] 29 (0, 0))) := ⟨by refine nE ?_; refine blk_far ?_ NB165_169.out _; refine nE ?_; refine blk_far ?_ NB165_169.out _; refine nE ?_; refine blk_far ?_ NB165_169.out _; refine nE ?_; refine blk_far ?_ NB165_169.out _; exact nB BK165.out⟩
                    have n1_ : Aside0 (((((w16.setCell ⟨gb169, 0, none⟩ (.int .i64 ((rd_T66 l0_2 x3_2).f0))).setCell ⟨gb169, 1, none⟩ (.int .i64 ((rd_T66 l0_2 x3_2).f1))).setCell ⟨gb169, 2, none⟩ (.int .i64 ((rd_T66 l0_2 x3_2).f2))).setCell ⟨gb169, 3, none⟩ (.int .i64 ((rd_T66 l0_2 x3_2).f3))).heap[gb169]? = some (.cells #[.int .i64 ((rd_T66 l0_2 x3_2).f0), .int .i64 ((rd_T66 l0_2 x3_2).f1), .int .i64 ((rd_T66 l0_2 x3_2).f2), .int .i64 ((rd_T66 l0_2 x3_2).f3)] 66 (0, 0))) := ⟨by refine nE ?_; refine blk_put (cs := #[.int .i64 ((rd_T66 l0_2 x3_2).f0), .int .i64 ((rd_T66 l0_2 x3_2).f1), .int .i64 ((rd_T66 l0_2 x3_2).f2), .int .i64 0]) ?_ 3 _ rfl; refine nE ?_; refine blk_put (cs := #[.int .i64 ((rd_T66 l0_2 x3_2).f0), .int .i64 ((rd_T66 l0_2 x3_2).f1), .int .i64 0, .int .i64 0]) ?_ 2 _ rfl; refine nE ?_; refine blk_put (cs := #[.int .i64 ((rd_T66 l0_2 x3_2).f0), .int .i64 0, .int .i64 0, .int .i64 0]) ?_ 1 _ rfl; refine nE ?_; refine blk_put (cs := #[.int .i64 0, .int .i64 0, .int .i64 0, .int .i64 0]) ?_ 0 _ rfl; exact nB BK169.out⟩
                    have n2_ : Aside0 (Below w.heap.size w ((((w16.setCell ⟨gb169, 0, none⟩ (.int .i64 ((rd_T66 l0_2 x3_2).f0))).setCell ⟨gb169, 1, none⟩ (.int .i64 ((rd_T66 l0_2 x3_2).f1))).setCell ⟨gb169, 2, none⟩ (.int .i64 ((rd_T66 l0_2 x3_2).f2))).setCell ⟨gb169, 3, none⟩ (.int .i64 ((rd_T66 l0_2 x3_2).f3)))) := ⟨nH2 HB.out GE165.out GE169.out⟩
                    (try clear BK165); (try clear BK169); (try clear HB)
                    generalize ((((w16.setCell ⟨gb169, 0, none⟩ (.int .i64 ((rd_T66 l0_2 x3_2).f0))).setCell ⟨gb169, 1, none⟩ (.int .i64 ((rd_T66 l0_2 x3_2).f1))).setCell ⟨gb169, 2, none⟩ (.int .i64 ((rd_T66 l0_2 x3_2).f2))).setCell ⟨gb169, 3, none⟩ (.int .i64 ((rd_T66 l0_2 x3_2).f3))) = w34 at n0_ n1_ n2_ ⊢
                    have BK165 := n0_; have BK169 := n1_; have HB := n2_; clear n0_ n1_ n2_
                    have n_ := aA (blk_drew BK165.out) <| aA (blk_drew BK169.out) <| aM (below_drew1 HB.out); clear BK165 BK169 HB; obtain ⟨BK165, BK169, HB⟩ := n_
                    have p170 : 0 ≤ ((ji23) : Int) := of_decide_eq_true nQ
                    have q170 : (ji23) < (l0_2.length : Int) := of_decide_eq_true nQ
                    obtain ⟨ad170, e170, hx170_0, hx170_1, hx170_2, hx170_3⟩ := at_T66 HR0_2.out (ji23) p170 q170
                    have hw170_3 := hx170_3; have hw170_2 := hx170_2; have hw170_1 := hx170_1; have hw170_0 := hx170_0
                    obtain rfl : ad168 = ad170 := (by injection e170)
                    replace hx170_0 := (HB.out.cell (World.block_lt_of_cell? w _ hx170_0)).trans hx170_0
                    replace hx170_1 := (HB.out.cell (World.block_lt_of_cell? w _ hx170_1)).trans hx170_1
                    replace hx170_2 := (HB.out.cell (World.block_lt_of_cell? w _ hx170_2)).trans hx170_2
                    replace hx170_3 := (HB.out.cell (World.block_lt_of_cell? w _ hx170_3)).trans hx170_3
                    replace p170 := eq_true p170; replace q170 := eq_true q170
                    refine start_ (n := 45) (S := fun w' => w'.cell? ⟨gb169, 0, none⟩ = some (.int .i64 ((rd_T66 l0_2 x3_2).f0)) ∧ w'.cell? ⟨gb169, 1, none⟩ = some (.int .i64 ((rd_T66 l0_2 x3_2).f1)) ∧ w'.cell? ⟨gb169, 2, none⟩ = some (.int .i64 ((rd_T66 l0_2 x3_2).f2)) ∧ w'.cell? ⟨gb169, 3, none⟩ = some (.int .i64 ((rd_T66 l0_2 x3_2).f3)) ∧ w'.cell? ⟨gb165, 0, none⟩ = some (.int .i64 a0_0) ∧ w'.cell? ⟨gb165, 1, none⟩ = some (.int .i64 a0_1) ∧ w'.cell? ⟨gb165, 2, none⟩ = some (.slice (some ad168) l0_2.length c0_2) ∧ w'.cell? (ad168.add (((ji23)).toNat * 4)) = some (.int .i64 ((rd_T66 l0_2 (ji23)).f0)) ∧ w'.cell? ⟨(ad168.add (((ji23)).toNat * 4)).block, (ad168.add (((ji23)).toNat * 4)).off + 1, none⟩ = some (.int .i64 ((rd_T66 l0_2 (ji23)).f1)) ∧ w'.cell? ⟨(ad168.add (((ji23)).toNat * 4)).block, (ad168.add (((ji23)).toNat * 4)).off + 2, none⟩ = some (.int .i64 ((rd_T66 l0_2 (ji23)).f2)) ∧ w'.cell? ⟨(ad168.add (((ji23)).toNat * 4)).block, (ad168.add (((ji23)).toNat * 4)).off + 3, none⟩ = some (.int .i64 ((rd_T66 l0_2 (ji23)).f3))) (ds := []) #[F,F,F,F,F,F,F,F,F,F,F,F,F,F,F,F,F,F,F,F,F,F,F,F,F,F,F,F,F,F,F,F,F,F,F,F,F,F,F,F,F,F,F,F,F] (by kernel_rfl) rfl rfl ⟨(blk_cell BK169.out 0).trans rfl, (blk_cell BK169.out 1).trans rfl, (blk_cell BK169.out 2).trans rfl, (blk_cell BK169.out 3).trans rfl, (blk_cell BK165.out 0).trans rfl, (blk_cell BK165.out 1).trans rfl, (blk_cell BK165.out 2).trans rfl, (nC HB.out hw170_0 :), (nC HB.out hw170_1 :), (nC HB.out hw170_2 :), (nC HB.out hw170_3 :)⟩ (fun hHeld => ?_); refine with_tabW spec_TrainOk.tab7 spec_TrainOk.bits7 (fun HT_ HW_ => ?_)
                    generalize w34.drew = w35 at BK165 BK169 HB hx170_0 hx170_1 hx170_2 hx170_3 hHeld ⊢
                    refine qU 0 (some 35) rfl rfl HT_.out ?_
                    refine qT11 1 (some 36) rfl rfl HT_.out HW_.out hHeld ?_
                    refine qU 2 (some 37) rfl rfl HT_.out ?_
                    refine qU 3 (some 38) rfl rfl HT_.out ?_
                    refine qU 4 (some 39) rfl rfl HT_.out ?_
                    refine qU 5 (some 40) rfl rfl HT_.out ?_
                    refine qU 6 (some 41) rfl rfl HT_.out ?_
                    refine qU 7 (some 42) rfl rfl HT_.out ?_
                    refine qU 9 (some 44) rfl rfl HT_.out ?_
                    refine qU 10 (some 45) rfl rfl HT_.out ?_
                    refine qU 14 (some 49) rfl rfl HT_.out ?_
                    refine qT11 8 (some 43) rfl rfl HT_.out HW_.out hHeld ?_
                    refine qU 11 (some 46) rfl rfl HT_.out ?_
                    refine qU 12 (some 47) rfl rfl HT_.out ?_
                    refine qT11 13 (some 48) rfl rfl HT_.out HW_.out hHeld ?_
                    refine qT11 15 (some 50) rfl rfl HT_.out HW_.out hHeld ?_
                    refine qU 16 (some 51) rfl rfl HT_.out ?_
                    refine qU 17 (some 52) rfl rfl HT_.out ?_
                    refine qU 18 (some 53) rfl rfl HT_.out ?_
                    refine qU 19 (some 54) rfl rfl HT_.out ?_
                    refine qU 20 (some 55) rfl rfl HT_.out ?_
                    refine qU 22 (some 57) rfl rfl HT_.out ?_
                    refine qT11 21 (some 56) rfl rfl HT_.out HW_.out hHeld ?_
                    refine qT11 23 (some 58) rfl rfl HT_.out HW_.out hHeld ?_
                    refine qU 24 (some 59) rfl rfl HT_.out ?_
                    refine one_ (i := 25) (N := some 60) #[T,T,T,T,T,T,T,T,T,T,T,T,T,T,T,T,T,T,T,T,T,T,T,T,T,T,F,F,F,F,F,F,F,F,F,F,F,F,F,F,F,F,F,F,F] rfl rfl (one_of HT_.out (by kernel_rfl)) (by decide) (fun K hK => ?_)
                    refine goes_ Try.func45 (by kernel_rfl) rfl #[.int .i64 ((rd_T66 l0_2 x3_2).f1), .int .i64 0, .int .i64 (wrap64 (a0_0 - 1))] (by rfl) rfl rfl nM ?_
                    with_reducible refine (spec_l01In.calls ((rd_T66 l0_2 x3_2).f1) 0 (wrap64 (a0_0 - 1)) true _ A29.out).mono ?_
                    rintro e w' ⟨rfl, ⟨nd, rfl⟩⟩
                    refine ⟨_, rfl, ?_⟩
                    refine hK.out _ _ ⟨(blk_cell BK169.out 0).trans rfl, (blk_cell BK169.out 1).trans rfl, (blk_cell BK169.out 2).trans rfl, (blk_cell BK169.out 3).trans rfl, (blk_cell BK165.out 0).trans rfl, (blk_cell BK165.out 1).trans rfl, (blk_cell BK165.out 2).trans rfl, (nC HB.out hw170_0 :), (nC HB.out hw170_1 :), (nC HB.out hw170_2 :), (nC HB.out hw170_3 :)⟩ (fun hHeld => ?_)
                    clear hK K
                    refine norm_ (a' := ?_) ?_ ?_
                    rotate_left
                    · show Act.put _ (some 60) _ = _
                      simp only [Act.put, List.setIfInBounds_toArray, List.set_cons_zero, List.set_cons_succ, i64_w, i32_w]
                      rfl
                    refine qU 26 (some 61) rfl rfl HT_.out ?_
                    refine qU 27 (some 62) rfl rfl HT_.out ?_
                    refine qU 28 (some 63) rfl rfl HT_.out ?_
                    refine qU 29 (some 64) rfl rfl HT_.out ?_
                    refine qU 31 (some 66) rfl rfl HT_.out ?_
                    refine qT11 30 (some 65) rfl rfl HT_.out HW_.out hHeld ?_
                    refine qT11 32 (some 67) rfl rfl HT_.out HW_.out hHeld ?_
                    refine one_ (i := 33) (N := some 68) #[T,T,T,T,T,T,T,T,T,T,T,T,T,T,T,T,T,T,T,T,T,T,T,T,T,T,T,T,T,T,T,T,T,T,F,F,F,F,F,F,F,F,F,F,F] rfl rfl (one_of HT_.out (by kernel_rfl)) (by decide) (fun K hK => ?_)
                    refine goes_ Try.func45 (by kernel_rfl) rfl #[.int .i64 ((rd_T66 l0_2 x3_2).f3), .int .i64 1, .int .i64 a0_1] (by rfl) rfl rfl nM ?_
                    with_reducible refine (spec_l01In.calls ((rd_T66 l0_2 x3_2).f3) 1 a0_1 true _ A31.out).mono ?_
                    rintro e w' ⟨rfl, ⟨nd, rfl⟩⟩
                    refine ⟨_, rfl, ?_⟩
                    refine hK.out _ _ ⟨(blk_cell BK169.out 0).trans rfl, (blk_cell BK169.out 1).trans rfl, (blk_cell BK169.out 2).trans rfl, (blk_cell BK169.out 3).trans rfl, (blk_cell BK165.out 0).trans rfl, (blk_cell BK165.out 1).trans rfl, (blk_cell BK165.out 2).trans rfl, (nC HB.out hw170_0 :), (nC HB.out hw170_1 :), (nC HB.out hw170_2 :), (nC HB.out hw170_3 :)⟩ (fun hHeld => ?_)
                    clear hK K
                    refine norm_ (a' := ?_) ?_ ?_
                    rotate_left
                    · show Act.put _ (some 68) _ = _
                      simp only [Act.put, List.setIfInBounds_toArray, List.set_cons_zero, List.set_cons_succ, i64_w, i32_w]
                      rfl
                    refine qU 34 (some 69) rfl rfl HT_.out ?_
                    refine qU 35 (some 70) rfl rfl HT_.out ?_
                    refine qU 36 (some 71) rfl rfl HT_.out ?_
                    refine qU 37 (some 72) rfl rfl HT_.out ?_
                    refine qU 39 (some 74) rfl rfl HT_.out ?_
                    refine qT11 38 (some 73) rfl rfl HT_.out HW_.out hHeld ?_
                    refine qT11 40 (some 75) rfl rfl HT_.out HW_.out hHeld ?_
                    refine qU 41 (some 76) rfl rfl HT_.out ?_
                    refine one_ (i := 42) (N := some 77) #[T,T,T,T,T,T,T,T,T,T,T,T,T,T,T,T,T,T,T,T,T,T,T,T,T,T,T,T,T,T,T,T,T,T,T,T,T,T,T,T,T,T,T,F,F] rfl rfl (one_of HT_.out (by kernel_rfl)) (by decide) (fun K hK => ?_)
                    refine goes_ Try.func45 (by kernel_rfl) rfl #[.int .i64 ((rd_T66 l0_2 x3_2).f2), .int .i64 0, .int .i64 (wrap64 (((rd_T66 l0_2 x3_2).f3) - 1))] (by rfl) rfl rfl nM ?_
                    with_reducible refine (spec_l01In.calls ((rd_T66 l0_2 x3_2).f2) 0 (wrap64 (((rd_T66 l0_2 x3_2).f3) - 1)) t173 _ A33.out).mono ?_
                    rintro e w' ⟨rfl, ⟨nd, rfl⟩⟩
                    refine ⟨_, rfl, ?_⟩
                    refine hK.out _ _ ⟨(blk_cell BK169.out 0).trans rfl, (blk_cell BK169.out 1).trans rfl, (blk_cell BK169.out 2).trans rfl, (blk_cell BK169.out 3).trans rfl, (blk_cell BK165.out 0).trans rfl, (blk_cell BK165.out 1).trans rfl, (blk_cell BK165.out 2).trans rfl, (nC HB.out hw170_0 :), (nC HB.out hw170_1 :), (nC HB.out hw170_2 :), (nC HB.out hw170_3 :)⟩ (fun hHeld => ?_)
                    clear hK K
                    refine norm_ (a' := ?_) ?_ ?_
                    rotate_left
                    · show Act.put _ (some 77) _ = _
                      simp only [Act.put, List.setIfInBounds_toArray, List.set_cons_zero, List.set_cons_succ, i64_w, i32_w]
                      rfl
                    refine qU 43 (some 78) rfl rfl HT_.out ?_
                    refine qU 44 (some 79) rfl rfl HT_.out ?_
                    refine done_ (done_of HT_.out (by kernel_rfl)) ?_
                    try go_wp2
                    go_meet
                    case rel => exact ⟨_, (!t173), nS, H', ⟨by have := HJ1.out; have := HK2.out; first | omega | exact Nat.le_refl _⟩, ⟨by exact nB BK165.out⟩, ⟨by exact nB BK169.out⟩, ⟨nH2 HB.out GE165.out GE169.out⟩⟩
                  · replace c32 := Bool.eq_false_iff.mpr c32
                    subst c32
                    rw [if_neg nN] at H
                    have H' := aM H
                    clear H
                    try go_wp2
                    have n0_ : Aside0 (((((w16.setCell ⟨gb169, 0, none⟩ (.int .i64 ((rd_T66 l0_2 x3_2).f0))).setCell ⟨gb169, 1, none⟩ (.int .i64 ((rd_T66 l0_2 x3_2).f1))).setCell ⟨gb169, 2, none⟩ (.int .i64 ((rd_T66 l0_2 x3_2).f2))).setCell ⟨gb169, 3, none⟩ (.int .i64 ((rd_T66 l0_2 x3_2).f3))).heap[gb165]? = some (.cells #[.int .i64 a0_0, .int .i64 a0_1, .slice (some ad168) l0_2.length c0_2] 29 (0, 0))) := ⟨by refine nE ?_; refine blk_far ?_ NB165_169.out _; refine nE ?_; refine blk_far ?_ NB165_169.out _; refine nE ?_; refine blk_far ?_ NB165_169.out _; refine nE ?_; refine blk_far ?_ NB165_169.out _; exact nB BK165.out⟩
                    have n1_ : Aside0 (((((w16.setCell ⟨gb169, 0, none⟩ (.int .i64 ((rd_T66 l0_2 x3_2).f0))).setCell ⟨gb169, 1, none⟩ (.int .i64 ((rd_T66 l0_2 x3_2).f1))).setCell ⟨gb169, 2, none⟩ (.int .i64 ((rd_T66 l0_2 x3_2).f2))).setCell ⟨gb169, 3, none⟩ (.int .i64 ((rd_T66 l0_2 x3_2).f3))).heap[gb169]? = some (.cells #[.int .i64 ((rd_T66 l0_2 x3_2).f0), .int .i64 ((rd_T66 l0_2 x3_2).f1), .int .i64 ((rd_T66 l0_2 x3_2).f2), .int .i64 ((rd_T66 l0_2 x3_2).f3)] 66 (0, 0))) := ⟨by refine nE ?_; refine blk_put (cs := #[.int .i64 ((rd_T66 l0_2 x3_2).f0), .int .i64 ((rd_T66 l0_2 x3_2).f1), .int .i64 ((rd_T66 l0_2 x3_2).f2), .int .i64 0]) ?_ 3 _ rfl; refine nE ?_; refine blk_put (cs := #[.int .i64 ((rd_T66 l0_2 x3_2).f0), .int .i64 ((rd_T66 l0_2 x3_2).f1), .int .i64 0, .int .i64 0]) ?_ 2 _ rfl; refine nE ?_; refine blk_put (cs := #[.int .i64 ((rd_T66 l0_2 x3_2).f0), .int .i64 0, .int .i64 0, .int .i64 0]) ?_ 1 _ rfl; refine nE ?_; refine blk_put (cs := #[.int .i64 0, .int .i64 0, .int .i64 0, .int .i64 0]) ?_ 0 _ rfl; exact nB BK169.out⟩
                    have n2_ : Aside0 (Below w.heap.size w ((((w16.setCell ⟨gb169, 0, none⟩ (.int .i64 ((rd_T66 l0_2 x3_2).f0))).setCell ⟨gb169, 1, none⟩ (.int .i64 ((rd_T66 l0_2 x3_2).f1))).setCell ⟨gb169, 2, none⟩ (.int .i64 ((rd_T66 l0_2 x3_2).f2))).setCell ⟨gb169, 3, none⟩ (.int .i64 ((rd_T66 l0_2 x3_2).f3)))) := ⟨nH2 HB.out GE165.out GE169.out⟩
                    (try clear BK165); (try clear BK169); (try clear HB)
                    generalize ((((w16.setCell ⟨gb169, 0, none⟩ (.int .i64 ((rd_T66 l0_2 x3_2).f0))).setCell ⟨gb169, 1, none⟩ (.int .i64 ((rd_T66 l0_2 x3_2).f1))).setCell ⟨gb169, 2, none⟩ (.int .i64 ((rd_T66 l0_2 x3_2).f2))).setCell ⟨gb169, 3, none⟩ (.int .i64 ((rd_T66 l0_2 x3_2).f3))) = w36 at n0_ n1_ n2_ ⊢
                    have BK165 := n0_; have BK169 := n1_; have HB := n2_; clear n0_ n1_ n2_
                    have n_ := aA (blk_drew BK165.out) <| aA (blk_drew BK169.out) <| aM (below_drew1 HB.out); clear BK165 BK169 HB; obtain ⟨BK165, BK169, HB⟩ := n_
                    have p170 : 0 ≤ ((ji23) : Int) := of_decide_eq_true nQ
                    have q170 : (ji23) < (l0_2.length : Int) := of_decide_eq_true nQ
                    obtain ⟨ad170, e170, hx170_0, hx170_1, hx170_2, hx170_3⟩ := at_T66 HR0_2.out (ji23) p170 q170
                    have hw170_3 := hx170_3; have hw170_2 := hx170_2; have hw170_1 := hx170_1; have hw170_0 := hx170_0
                    obtain rfl : ad168 = ad170 := (by injection e170)
                    replace hx170_0 := (HB.out.cell (World.block_lt_of_cell? w _ hx170_0)).trans hx170_0
                    replace hx170_1 := (HB.out.cell (World.block_lt_of_cell? w _ hx170_1)).trans hx170_1
                    replace hx170_2 := (HB.out.cell (World.block_lt_of_cell? w _ hx170_2)).trans hx170_2
                    replace hx170_3 := (HB.out.cell (World.block_lt_of_cell? w _ hx170_3)).trans hx170_3
                    replace p170 := eq_true p170; replace q170 := eq_true q170
                    refine start_ (n := 45) (S := fun w' => w'.cell? ⟨gb169, 0, none⟩ = some (.int .i64 ((rd_T66 l0_2 x3_2).f0)) ∧ w'.cell? ⟨gb169, 1, none⟩ = some (.int .i64 ((rd_T66 l0_2 x3_2).f1)) ∧ w'.cell? ⟨gb169, 2, none⟩ = some (.int .i64 ((rd_T66 l0_2 x3_2).f2)) ∧ w'.cell? ⟨gb169, 3, none⟩ = some (.int .i64 ((rd_T66 l0_2 x3_2).f3)) ∧ w'.cell? ⟨gb165, 0, none⟩ = some (.int .i64 a0_0) ∧ w'.cell? ⟨gb165, 1, none⟩ = some (.int .i64 a0_1) ∧ w'.cell? ⟨gb165, 2, none⟩ = some (.slice (some ad168) l0_2.length c0_2) ∧ w'.cell? (ad168.add (((ji23)).toNat * 4)) = some (.int .i64 ((rd_T66 l0_2 (ji23)).f0)) ∧ w'.cell? ⟨(ad168.add (((ji23)).toNat * 4)).block, (ad168.add (((ji23)).toNat * 4)).off + 1, none⟩ = some (.int .i64 ((rd_T66 l0_2 (ji23)).f1)) ∧ w'.cell? ⟨(ad168.add (((ji23)).toNat * 4)).block, (ad168.add (((ji23)).toNat * 4)).off + 2, none⟩ = some (.int .i64 ((rd_T66 l0_2 (ji23)).f2)) ∧ w'.cell? ⟨(ad168.add (((ji23)).toNat * 4)).block, (ad168.add (((ji23)).toNat * 4)).off + 3, none⟩ = some (.int .i64 ((rd_T66 l0_2 (ji23)).f3))) (ds := []) #[F,F,F,F,F,F,F,F,F,F,F,F,F,F,F,F,F,F,F,F,F,F,F,F,F,F,F,F,F,F,F,F,F,F,F,F,F,F,F,F,F,F,F,F,F] (by kernel_rfl) rfl rfl ⟨(blk_cell BK169.out 0).trans rfl, (blk_cell BK169.out 1).trans rfl, (blk_cell BK169.out 2).trans rfl, (blk_cell BK169.out 3).trans rfl, (blk_cell BK165.out 0).trans rfl, (blk_cell BK165.out 1).trans rfl, (blk_cell BK165.out 2).trans rfl, (nC HB.out hw170_0 :), (nC HB.out hw170_1 :), (nC HB.out hw170_2 :), (nC HB.out hw170_3 :)⟩ (fun hHeld => ?_); refine with_tabW spec_TrainOk.tab7 spec_TrainOk.bits7 (fun HT_ HW_ => ?_)
                    generalize w36.drew = w37 at BK165 BK169 HB hx170_0 hx170_1 hx170_2 hx170_3 hHeld ⊢
                    refine qU 0 (some 35) rfl rfl HT_.out ?_
                    refine qT11 1 (some 36) rfl rfl HT_.out HW_.out hHeld ?_
                    refine qU 2 (some 37) rfl rfl HT_.out ?_
                    refine qU 3 (some 38) rfl rfl HT_.out ?_
                    refine qU 4 (some 39) rfl rfl HT_.out ?_
                    refine qU 5 (some 40) rfl rfl HT_.out ?_
                    refine qU 6 (some 41) rfl rfl HT_.out ?_
                    refine qU 7 (some 42) rfl rfl HT_.out ?_
                    refine qU 9 (some 44) rfl rfl HT_.out ?_
                    refine qU 10 (some 45) rfl rfl HT_.out ?_
                    refine qU 14 (some 49) rfl rfl HT_.out ?_
                    refine qT11 8 (some 43) rfl rfl HT_.out HW_.out hHeld ?_
                    refine qU 11 (some 46) rfl rfl HT_.out ?_
                    refine qU 12 (some 47) rfl rfl HT_.out ?_
                    refine qT11 13 (some 48) rfl rfl HT_.out HW_.out hHeld ?_
                    refine qT11 15 (some 50) rfl rfl HT_.out HW_.out hHeld ?_
                    refine qU 16 (some 51) rfl rfl HT_.out ?_
                    refine qU 17 (some 52) rfl rfl HT_.out ?_
                    refine qU 18 (some 53) rfl rfl HT_.out ?_
                    refine qU 19 (some 54) rfl rfl HT_.out ?_
                    refine qU 20 (some 55) rfl rfl HT_.out ?_
                    refine qU 22 (some 57) rfl rfl HT_.out ?_
                    refine qT11 21 (some 56) rfl rfl HT_.out HW_.out hHeld ?_
                    refine qT11 23 (some 58) rfl rfl HT_.out HW_.out hHeld ?_
                    refine qU 24 (some 59) rfl rfl HT_.out ?_
                    refine one_ (i := 25) (N := some 60) #[T,T,T,T,T,T,T,T,T,T,T,T,T,T,T,T,T,T,T,T,T,T,T,T,T,T,F,F,F,F,F,F,F,F,F,F,F,F,F,F,F,F,F,F,F] rfl rfl (one_of HT_.out (by kernel_rfl)) (by decide) (fun K hK => ?_)
                    refine goes_ Try.func45 (by kernel_rfl) rfl #[.int .i64 ((rd_T66 l0_2 x3_2).f1), .int .i64 0, .int .i64 (wrap64 (a0_0 - 1))] (by rfl) rfl rfl nM ?_
                    with_reducible refine (spec_l01In.calls ((rd_T66 l0_2 x3_2).f1) 0 (wrap64 (a0_0 - 1)) true _ A29.out).mono ?_
                    rintro e w' ⟨rfl, ⟨nd, rfl⟩⟩
                    refine ⟨_, rfl, ?_⟩
                    refine hK.out _ _ ⟨(blk_cell BK169.out 0).trans rfl, (blk_cell BK169.out 1).trans rfl, (blk_cell BK169.out 2).trans rfl, (blk_cell BK169.out 3).trans rfl, (blk_cell BK165.out 0).trans rfl, (blk_cell BK165.out 1).trans rfl, (blk_cell BK165.out 2).trans rfl, (nC HB.out hw170_0 :), (nC HB.out hw170_1 :), (nC HB.out hw170_2 :), (nC HB.out hw170_3 :)⟩ (fun hHeld => ?_)
                    clear hK K
                    refine norm_ (a' := ?_) ?_ ?_
                    rotate_left
                    · show Act.put _ (some 60) _ = _
                      simp only [Act.put, List.setIfInBounds_toArray, List.set_cons_zero, List.set_cons_succ, i64_w, i32_w]
                      rfl
                    refine qU 26 (some 61) rfl rfl HT_.out ?_
                    refine qU 27 (some 62) rfl rfl HT_.out ?_
                    refine qU 28 (some 63) rfl rfl HT_.out ?_
                    refine qU 29 (some 64) rfl rfl HT_.out ?_
                    refine qU 31 (some 66) rfl rfl HT_.out ?_
                    refine qT11 30 (some 65) rfl rfl HT_.out HW_.out hHeld ?_
                    refine qT11 32 (some 67) rfl rfl HT_.out HW_.out hHeld ?_
                    refine one_ (i := 33) (N := some 68) #[T,T,T,T,T,T,T,T,T,T,T,T,T,T,T,T,T,T,T,T,T,T,T,T,T,T,T,T,T,T,T,T,T,T,F,F,F,F,F,F,F,F,F,F,F] rfl rfl (one_of HT_.out (by kernel_rfl)) (by decide) (fun K hK => ?_)
                    refine goes_ Try.func45 (by kernel_rfl) rfl #[.int .i64 ((rd_T66 l0_2 x3_2).f3), .int .i64 1, .int .i64 a0_1] (by rfl) rfl rfl nM ?_
                    with_reducible refine (spec_l01In.calls ((rd_T66 l0_2 x3_2).f3) 1 a0_1 false _ A31.out).mono ?_
                    rintro e w' ⟨rfl, ⟨nd, rfl⟩⟩
                    refine ⟨_, rfl, ?_⟩
                    refine hK.out _ _ ⟨(blk_cell BK169.out 0).trans rfl, (blk_cell BK169.out 1).trans rfl, (blk_cell BK169.out 2).trans rfl, (blk_cell BK169.out 3).trans rfl, (blk_cell BK165.out 0).trans rfl, (blk_cell BK165.out 1).trans rfl, (blk_cell BK165.out 2).trans rfl, (nC HB.out hw170_0 :), (nC HB.out hw170_1 :), (nC HB.out hw170_2 :), (nC HB.out hw170_3 :)⟩ (fun hHeld => ?_)
                    clear hK K
                    refine norm_ (a' := ?_) ?_ ?_
                    rotate_left
                    · show Act.put _ (some 68) _ = _
                      simp only [Act.put, List.setIfInBounds_toArray, List.set_cons_zero, List.set_cons_succ, i64_w, i32_w]
                      rfl
                    refine qU 34 (some 69) rfl rfl HT_.out ?_
                    refine qU 35 (some 70) rfl rfl HT_.out ?_
                    refine qU 36 (some 71) rfl rfl HT_.out ?_
                    refine qV 37 (some 72) rfl rfl HT_.out ?_
                    refine qV 38 (some 73) rfl rfl HT_.out ?_
                    refine qV 39 (some 74) rfl rfl HT_.out ?_
                    refine qV 40 (some 75) rfl rfl HT_.out ?_
                    refine qV 41 (some 76) rfl rfl HT_.out ?_
                    refine qV 42 (some 77) rfl rfl HT_.out ?_
                    refine qV 43 (some 78) rfl rfl HT_.out ?_
                    refine qU 44 (some 79) rfl rfl HT_.out ?_
                    refine done_ (done_of HT_.out (by kernel_rfl)) ?_
                    try go_wp2
                    go_meet
                    case rel => exact ⟨_, (true), nS, H', ⟨by have := HJ1.out; have := HK2.out; first | omega | exact Nat.le_refl _⟩, ⟨by exact nB BK165.out⟩, ⟨by exact nB BK169.out⟩, ⟨nH2 HB.out GE165.out GE169.out⟩⟩
                · replace c30 := Bool.eq_false_iff.mpr c30
                  subst c30
                  rw [if_neg nN] at H
                  have H' := aM H
                  clear H
                  try go_wp2
                  have n0_ : Aside0 (((((w16.setCell ⟨gb169, 0, none⟩ (.int .i64 ((rd_T66 l0_2 x3_2).f0))).setCell ⟨gb169, 1, none⟩ (.int .i64 ((rd_T66 l0_2 x3_2).f1))).setCell ⟨gb169, 2, none⟩ (.int .i64 ((rd_T66 l0_2 x3_2).f2))).setCell ⟨gb169, 3, none⟩ (.int .i64 ((rd_T66 l0_2 x3_2).f3))).heap[gb165]? = some (.cells #[.int .i64 a0_0, .int .i64 a0_1, .slice (some ad168) l0_2.length c0_2] 29 (0, 0))) := ⟨by refine nE ?_; refine blk_far ?_ NB165_169.out _; refine nE ?_; refine blk_far ?_ NB165_169.out _; refine nE ?_; refine blk_far ?_ NB165_169.out _; refine nE ?_; refine blk_far ?_ NB165_169.out _; exact nB BK165.out⟩
                  have n1_ : Aside0 (((((w16.setCell ⟨gb169, 0, none⟩ (.int .i64 ((rd_T66 l0_2 x3_2).f0))).setCell ⟨gb169, 1, none⟩ (.int .i64 ((rd_T66 l0_2 x3_2).f1))).setCell ⟨gb169, 2, none⟩ (.int .i64 ((rd_T66 l0_2 x3_2).f2))).setCell ⟨gb169, 3, none⟩ (.int .i64 ((rd_T66 l0_2 x3_2).f3))).heap[gb169]? = some (.cells #[.int .i64 ((rd_T66 l0_2 x3_2).f0), .int .i64 ((rd_T66 l0_2 x3_2).f1), .int .i64 ((rd_T66 l0_2 x3_2).f2), .int .i64 ((rd_T66 l0_2 x3_2).f3)] 66 (0, 0))) := ⟨by refine nE ?_; refine blk_put (cs := #[.int .i64 ((rd_T66 l0_2 x3_2).f0), .int .i64 ((rd_T66 l0_2 x3_2).f1), .int .i64 ((rd_T66 l0_2 x3_2).f2), .int .i64 0]) ?_ 3 _ rfl; refine nE ?_; refine blk_put (cs := #[.int .i64 ((rd_T66 l0_2 x3_2).f0), .int .i64 ((rd_T66 l0_2 x3_2).f1), .int .i64 0, .int .i64 0]) ?_ 2 _ rfl; refine nE ?_; refine blk_put (cs := #[.int .i64 ((rd_T66 l0_2 x3_2).f0), .int .i64 0, .int .i64 0, .int .i64 0]) ?_ 1 _ rfl; refine nE ?_; refine blk_put (cs := #[.int .i64 0, .int .i64 0, .int .i64 0, .int .i64 0]) ?_ 0 _ rfl; exact nB BK169.out⟩
                  have n2_ : Aside0 (Below w.heap.size w ((((w16.setCell ⟨gb169, 0, none⟩ (.int .i64 ((rd_T66 l0_2 x3_2).f0))).setCell ⟨gb169, 1, none⟩ (.int .i64 ((rd_T66 l0_2 x3_2).f1))).setCell ⟨gb169, 2, none⟩ (.int .i64 ((rd_T66 l0_2 x3_2).f2))).setCell ⟨gb169, 3, none⟩ (.int .i64 ((rd_T66 l0_2 x3_2).f3)))) := ⟨nH2 HB.out GE165.out GE169.out⟩
                  (try clear BK165); (try clear BK169); (try clear HB)
                  generalize ((((w16.setCell ⟨gb169, 0, none⟩ (.int .i64 ((rd_T66 l0_2 x3_2).f0))).setCell ⟨gb169, 1, none⟩ (.int .i64 ((rd_T66 l0_2 x3_2).f1))).setCell ⟨gb169, 2, none⟩ (.int .i64 ((rd_T66 l0_2 x3_2).f2))).setCell ⟨gb169, 3, none⟩ (.int .i64 ((rd_T66 l0_2 x3_2).f3))) = w38 at n0_ n1_ n2_ ⊢
                  have BK165 := n0_; have BK169 := n1_; have HB := n2_; clear n0_ n1_ n2_
                  have n_ := aA (blk_drew BK165.out) <| aA (blk_drew BK169.out) <| aM (below_drew1 HB.out); clear BK165 BK169 HB; obtain ⟨BK165, BK169, HB⟩ := n_
                  have p170 : 0 ≤ ((ji23) : Int) := of_decide_eq_true nQ
                  have q170 : (ji23) < (l0_2.length : Int) := of_decide_eq_true nQ
                  obtain ⟨ad170, e170, hx170_0, hx170_1, hx170_2, hx170_3⟩ := at_T66 HR0_2.out (ji23) p170 q170
                  have hw170_3 := hx170_3; have hw170_2 := hx170_2; have hw170_1 := hx170_1; have hw170_0 := hx170_0
                  obtain rfl : ad168 = ad170 := (by injection e170)
                  replace hx170_0 := (HB.out.cell (World.block_lt_of_cell? w _ hx170_0)).trans hx170_0
                  replace hx170_1 := (HB.out.cell (World.block_lt_of_cell? w _ hx170_1)).trans hx170_1
                  replace hx170_2 := (HB.out.cell (World.block_lt_of_cell? w _ hx170_2)).trans hx170_2
                  replace hx170_3 := (HB.out.cell (World.block_lt_of_cell? w _ hx170_3)).trans hx170_3
                  replace p170 := eq_true p170; replace q170 := eq_true q170
                  refine start_ (n := 45) (S := fun w' => w'.cell? ⟨gb169, 0, none⟩ = some (.int .i64 ((rd_T66 l0_2 x3_2).f0)) ∧ w'.cell? ⟨gb169, 1, none⟩ = some (.int .i64 ((rd_T66 l0_2 x3_2).f1)) ∧ w'.cell? ⟨gb169, 2, none⟩ = some (.int .i64 ((rd_T66 l0_2 x3_2).f2)) ∧ w'.cell? ⟨gb169, 3, none⟩ = some (.int .i64 ((rd_T66 l0_2 x3_2).f3)) ∧ w'.cell? ⟨gb165, 0, none⟩ = some (.int .i64 a0_0) ∧ w'.cell? ⟨gb165, 1, none⟩ = some (.int .i64 a0_1) ∧ w'.cell? ⟨gb165, 2, none⟩ = some (.slice (some ad168) l0_2.length c0_2) ∧ w'.cell? (ad168.add (((ji23)).toNat * 4)) = some (.int .i64 ((rd_T66 l0_2 (ji23)).f0)) ∧ w'.cell? ⟨(ad168.add (((ji23)).toNat * 4)).block, (ad168.add (((ji23)).toNat * 4)).off + 1, none⟩ = some (.int .i64 ((rd_T66 l0_2 (ji23)).f1)) ∧ w'.cell? ⟨(ad168.add (((ji23)).toNat * 4)).block, (ad168.add (((ji23)).toNat * 4)).off + 2, none⟩ = some (.int .i64 ((rd_T66 l0_2 (ji23)).f2)) ∧ w'.cell? ⟨(ad168.add (((ji23)).toNat * 4)).block, (ad168.add (((ji23)).toNat * 4)).off + 3, none⟩ = some (.int .i64 ((rd_T66 l0_2 (ji23)).f3))) (ds := []) #[F,F,F,F,F,F,F,F,F,F,F,F,F,F,F,F,F,F,F,F,F,F,F,F,F,F,F,F,F,F,F,F,F,F,F,F,F,F,F,F,F,F,F,F,F] (by kernel_rfl) rfl rfl ⟨(blk_cell BK169.out 0).trans rfl, (blk_cell BK169.out 1).trans rfl, (blk_cell BK169.out 2).trans rfl, (blk_cell BK169.out 3).trans rfl, (blk_cell BK165.out 0).trans rfl, (blk_cell BK165.out 1).trans rfl, (blk_cell BK165.out 2).trans rfl, (nC HB.out hw170_0 :), (nC HB.out hw170_1 :), (nC HB.out hw170_2 :), (nC HB.out hw170_3 :)⟩ (fun hHeld => ?_); refine with_tabW spec_TrainOk.tab7 spec_TrainOk.bits7 (fun HT_ HW_ => ?_)
                  generalize w38.drew = w39 at BK165 BK169 HB hx170_0 hx170_1 hx170_2 hx170_3 hHeld ⊢
                  refine qU 0 (some 35) rfl rfl HT_.out ?_
                  refine qT11 1 (some 36) rfl rfl HT_.out HW_.out hHeld ?_
                  refine qU 2 (some 37) rfl rfl HT_.out ?_
                  refine qU 3 (some 38) rfl rfl HT_.out ?_
                  refine qU 4 (some 39) rfl rfl HT_.out ?_
                  refine qU 5 (some 40) rfl rfl HT_.out ?_
                  refine qU 6 (some 41) rfl rfl HT_.out ?_
                  refine qU 7 (some 42) rfl rfl HT_.out ?_
                  refine qU 9 (some 44) rfl rfl HT_.out ?_
                  refine qU 10 (some 45) rfl rfl HT_.out ?_
                  refine qU 14 (some 49) rfl rfl HT_.out ?_
                  refine qT11 8 (some 43) rfl rfl HT_.out HW_.out hHeld ?_
                  refine qU 11 (some 46) rfl rfl HT_.out ?_
                  refine qU 12 (some 47) rfl rfl HT_.out ?_
                  refine qT11 13 (some 48) rfl rfl HT_.out HW_.out hHeld ?_
                  refine qT11 15 (some 50) rfl rfl HT_.out HW_.out hHeld ?_
                  refine qU 16 (some 51) rfl rfl HT_.out ?_
                  refine qU 17 (some 52) rfl rfl HT_.out ?_
                  refine qU 18 (some 53) rfl rfl HT_.out ?_
                  refine qU 19 (some 54) rfl rfl HT_.out ?_
                  refine qU 20 (some 55) rfl rfl HT_.out ?_
                  refine qU 22 (some 57) rfl rfl HT_.out ?_
                  refine qT11 21 (some 56) rfl rfl HT_.out HW_.out hHeld ?_
                  refine qT11 23 (some 58) rfl rfl HT_.out HW_.out hHeld ?_
                  refine qU 24 (some 59) rfl rfl HT_.out ?_
                  refine one_ (i := 25) (N := some 60) #[T,T,T,T,T,T,T,T,T,T,T,T,T,T,T,T,T,T,T,T,T,T,T,T,T,T,F,F,F,F,F,F,F,F,F,F,F,F,F,F,F,F,F,F,F] rfl rfl (one_of HT_.out (by kernel_rfl)) (by decide) (fun K hK => ?_)
                  refine goes_ Try.func45 (by kernel_rfl) rfl #[.int .i64 ((rd_T66 l0_2 x3_2).f1), .int .i64 0, .int .i64 (wrap64 (a0_0 - 1))] (by rfl) rfl rfl nM ?_
                  with_reducible refine (spec_l01In.calls ((rd_T66 l0_2 x3_2).f1) 0 (wrap64 (a0_0 - 1)) false _ A29.out).mono ?_
                  rintro e w' ⟨rfl, ⟨nd, rfl⟩⟩
                  refine ⟨_, rfl, ?_⟩
                  refine hK.out _ _ ⟨(blk_cell BK169.out 0).trans rfl, (blk_cell BK169.out 1).trans rfl, (blk_cell BK169.out 2).trans rfl, (blk_cell BK169.out 3).trans rfl, (blk_cell BK165.out 0).trans rfl, (blk_cell BK165.out 1).trans rfl, (blk_cell BK165.out 2).trans rfl, (nC HB.out hw170_0 :), (nC HB.out hw170_1 :), (nC HB.out hw170_2 :), (nC HB.out hw170_3 :)⟩ (fun hHeld => ?_)
                  clear hK K
                  refine norm_ (a' := ?_) ?_ ?_
                  rotate_left
                  · show Act.put _ (some 60) _ = _
                    simp only [Act.put, List.setIfInBounds_toArray, List.set_cons_zero, List.set_cons_succ, i64_w, i32_w]
                    rfl
                  refine qU 26 (some 61) rfl rfl HT_.out ?_
                  refine qU 27 (some 62) rfl rfl HT_.out ?_
                  refine qU 28 (some 63) rfl rfl HT_.out ?_
                  refine qV 29 (some 64) rfl rfl HT_.out ?_
                  refine qV 30 (some 65) rfl rfl HT_.out ?_
                  refine qV 31 (some 66) rfl rfl HT_.out ?_
                  refine qV 32 (some 67) rfl rfl HT_.out ?_
                  refine qV 33 (some 68) rfl rfl HT_.out ?_
                  refine qV 34 (some 69) rfl rfl HT_.out ?_
                  refine qU 35 (some 70) rfl rfl HT_.out ?_
                  refine qU 36 (some 71) rfl rfl HT_.out ?_
                  refine qV 37 (some 72) rfl rfl HT_.out ?_
                  refine qV 38 (some 73) rfl rfl HT_.out ?_
                  refine qV 39 (some 74) rfl rfl HT_.out ?_
                  refine qV 40 (some 75) rfl rfl HT_.out ?_
                  refine qV 41 (some 76) rfl rfl HT_.out ?_
                  refine qV 42 (some 77) rfl rfl HT_.out ?_
                  refine qV 43 (some 78) rfl rfl HT_.out ?_
                  refine qU 44 (some 79) rfl rfl HT_.out ?_
                  refine done_ (done_of HT_.out (by kernel_rfl)) ?_
                  try go_wp2
                  go_meet
                  case rel => exact ⟨_, (true), nS, H', ⟨by have := HJ1.out; have := HK2.out; first | omega | exact Nat.le_refl _⟩, ⟨by exact nB BK165.out⟩, ⟨by exact nB BK169.out⟩, ⟨nH2 HB.out GE165.out GE169.out⟩⟩
            · rw [if_neg c22] at H
              have c22b0 : decide (0 < x3_2) = false := decide_eq_false c22
              clear c22
              obtain ⟨t174, A400, H⟩ := Option.bind_eq_some_iff.mp H
              have A40 := aM A400
              clear A400
              by_cases c41 : t174 = true
              · subst c41
                rw [if_pos rfl] at H
                obtain ⟨t175, A420, H⟩ := Option.bind_eq_some_iff.mp H
                have A42 := aM A420
                clear A420
                by_cases c43 : t175 = true
                · subst c43
                  rw [if_pos rfl] at H
                  obtain ⟨t176, A440, H⟩ := Option.bind_eq_some_iff.mp H
                  have A44 := aM A440
                  clear A440
                  have H' := aM H
                  clear H
                  try go_wp2
                  have n0_ : Aside0 (((((w16.setCell ⟨gb169, 0, none⟩ (.int .i64 ((rd_T66 l0_2 x3_2).f0))).setCell ⟨gb169, 1, none⟩ (.int .i64 ((rd_T66 l0_2 x3_2).f1))).setCell ⟨gb169, 2, none⟩ (.int .i64 ((rd_T66 l0_2 x3_2).f2))).setCell ⟨gb169, 3, none⟩ (.int .i64 ((rd_T66 l0_2 x3_2).f3))).heap[gb165]? = some (.cells #[.int .i64 a0_0, .int .i64 a0_1, .slice (some ad168) l0_2.length c0_2] 29 (0, 0))) := ⟨by refine nE ?_; refine blk_far ?_ NB165_169.out _; refine nE ?_; refine blk_far ?_ NB165_169.out _; refine nE ?_; refine blk_far ?_ NB165_169.out _; refine nE ?_; refine blk_far ?_ NB165_169.out _; exact nB BK165.out⟩
                  have n1_ : Aside0 (((((w16.setCell ⟨gb169, 0, none⟩ (.int .i64 ((rd_T66 l0_2 x3_2).f0))).setCell ⟨gb169, 1, none⟩ (.int .i64 ((rd_T66 l0_2 x3_2).f1))).setCell ⟨gb169, 2, none⟩ (.int .i64 ((rd_T66 l0_2 x3_2).f2))).setCell ⟨gb169, 3, none⟩ (.int .i64 ((rd_T66 l0_2 x3_2).f3))).heap[gb169]? = some (.cells #[.int .i64 ((rd_T66 l0_2 x3_2).f0), .int .i64 ((rd_T66 l0_2 x3_2).f1), .int .i64 ((rd_T66 l0_2 x3_2).f2), .int .i64 ((rd_T66 l0_2 x3_2).f3)] 66 (0, 0))) := ⟨by refine nE ?_; refine blk_put (cs := #[.int .i64 ((rd_T66 l0_2 x3_2).f0), .int .i64 ((rd_T66 l0_2 x3_2).f1), .int .i64 ((rd_T66 l0_2 x3_2).f2), .int .i64 0]) ?_ 3 _ rfl; refine nE ?_; refine blk_put (cs := #[.int .i64 ((rd_T66 l0_2 x3_2).f0), .int .i64 ((rd_T66 l0_2 x3_2).f1), .int .i64 0, .int .i64 0]) ?_ 2 _ rfl; refine nE ?_; refine blk_put (cs := #[.int .i64 ((rd_T66 l0_2 x3_2).f0), .int .i64 0, .int .i64 0, .int .i64 0]) ?_ 1 _ rfl; refine nE ?_; refine blk_put (cs := #[.int .i64 0, .int .i64 0, .int .i64 0, .int .i64 0]) ?_ 0 _ rfl; exact nB BK169.out⟩
                  have n2_ : Aside0 (Below w.heap.size w ((((w16.setCell ⟨gb169, 0, none⟩ (.int .i64 ((rd_T66 l0_2 x3_2).f0))).setCell ⟨gb169, 1, none⟩ (.int .i64 ((rd_T66 l0_2 x3_2).f1))).setCell ⟨gb169, 2, none⟩ (.int .i64 ((rd_T66 l0_2 x3_2).f2))).setCell ⟨gb169, 3, none⟩ (.int .i64 ((rd_T66 l0_2 x3_2).f3)))) := ⟨nH2 HB.out GE165.out GE169.out⟩
                  (try clear BK165); (try clear BK169); (try clear HB)
                  generalize ((((w16.setCell ⟨gb169, 0, none⟩ (.int .i64 ((rd_T66 l0_2 x3_2).f0))).setCell ⟨gb169, 1, none⟩ (.int .i64 ((rd_T66 l0_2 x3_2).f1))).setCell ⟨gb169, 2, none⟩ (.int .i64 ((rd_T66 l0_2 x3_2).f2))).setCell ⟨gb169, 3, none⟩ (.int .i64 ((rd_T66 l0_2 x3_2).f3))) = w45 at n0_ n1_ n2_ ⊢
                  have BK165 := n0_; have BK169 := n1_; have HB := n2_; clear n0_ n1_ n2_
                  have n_ := aA (blk_drew BK165.out) <| aA (blk_drew BK169.out) <| aM (below_drew1 HB.out); clear BK165 BK169 HB; obtain ⟨BK165, BK169, HB⟩ := n_
                  refine start_ (n := 45) (S := fun w' => w'.cell? ⟨gb169, 0, none⟩ = some (.int .i64 ((rd_T66 l0_2 x3_2).f0)) ∧ w'.cell? ⟨gb169, 1, none⟩ = some (.int .i64 ((rd_T66 l0_2 x3_2).f1)) ∧ w'.cell? ⟨gb169, 2, none⟩ = some (.int .i64 ((rd_T66 l0_2 x3_2).f2)) ∧ w'.cell? ⟨gb169, 3, none⟩ = some (.int .i64 ((rd_T66 l0_2 x3_2).f3)) ∧ w'.cell? ⟨gb165, 0, none⟩ = some (.int .i64 a0_0) ∧ w'.cell? ⟨gb165, 1, none⟩ = some (.int .i64 a0_1) ∧ w'.cell? ⟨gb165, 2, none⟩ = some (.slice (some ad168) l0_2.length c0_2)) (ds := []) #[F,F,F,F,F,F,F,F,F,F,F,F,F,F,F,F,F,F,F,F,F,F,F,F,F,F,F,F,F,F,F,F,F,F,F,F,F,F,F,F,F,F,F,F,F] (by kernel_rfl) rfl rfl ⟨(blk_cell BK169.out 0).trans rfl, (blk_cell BK169.out 1).trans rfl, (blk_cell BK169.out 2).trans rfl, (blk_cell BK169.out 3).trans rfl, (blk_cell BK165.out 0).trans rfl, (blk_cell BK165.out 1).trans rfl, (blk_cell BK165.out 2).trans rfl⟩ (fun hHeld => ?_); refine with_tabW spec_TrainOk.tab7 spec_TrainOk.bits7 (fun HT_ HW_ => ?_)
                  generalize w45.drew = w46 at BK165 BK169 HB hHeld ⊢
                  refine qU 0 (some 35) rfl rfl HT_.out ?_
                  refine qT7 1 (some 36) rfl rfl HT_.out HW_.out hHeld ?_
                  refine qU 2 (some 37) rfl rfl HT_.out ?_
                  refine qU 3 (some 38) rfl rfl HT_.out ?_
                  refine qU 4 (some 39) rfl rfl HT_.out ?_
                  refine qU 5 (some 40) rfl rfl HT_.out ?_
                  refine qU 6 (some 41) rfl rfl HT_.out ?_
                  refine qV 7 (some 42) rfl rfl HT_.out ?_
                  refine qV 8 (some 43) rfl rfl HT_.out ?_
                  refine qV 9 (some 44) rfl rfl HT_.out ?_
                  refine qV 10 (some 45) rfl rfl HT_.out ?_
                  refine qV 11 (some 46) rfl rfl HT_.out ?_
                  refine qV 12 (some 47) rfl rfl HT_.out ?_
                  refine qV 13 (some 48) rfl rfl HT_.out ?_
                  refine qV 14 (some 49) rfl rfl HT_.out ?_
                  refine qV 15 (some 50) rfl rfl HT_.out ?_
                  refine qV 16 (some 51) rfl rfl HT_.out ?_
                  refine qU 17 (some 52) rfl rfl HT_.out ?_
                  refine qU 18 (some 53) rfl rfl HT_.out ?_
                  refine qU 19 (some 54) rfl rfl HT_.out ?_
                  refine qU 20 (some 55) rfl rfl HT_.out ?_
                  refine qU 22 (some 57) rfl rfl HT_.out ?_
                  refine qT7 21 (some 56) rfl rfl HT_.out HW_.out hHeld ?_
                  refine qT7 23 (some 58) rfl rfl HT_.out HW_.out hHeld ?_
                  refine qU 24 (some 59) rfl rfl HT_.out ?_
                  refine one_ (i := 25) (N := some 60) #[T,T,T,T,T,T,T,T,T,T,T,T,T,T,T,T,T,T,T,T,T,T,T,T,T,T,F,F,F,F,F,F,F,F,F,F,F,F,F,F,F,F,F,F,F] rfl rfl (one_of HT_.out (by kernel_rfl)) (by decide) (fun K hK => ?_)
                  refine goes_ Try.func45 (by kernel_rfl) rfl #[.int .i64 ((rd_T66 l0_2 x3_2).f1), .int .i64 0, .int .i64 (wrap64 (a0_0 - 1))] (by rfl) rfl rfl nM ?_
                  with_reducible refine (spec_l01In.calls ((rd_T66 l0_2 x3_2).f1) 0 (wrap64 (a0_0 - 1)) true _ A40.out).mono ?_
                  rintro e w' ⟨rfl, ⟨nd, rfl⟩⟩
                  refine ⟨_, rfl, ?_⟩
                  refine hK.out _ _ ⟨(blk_cell BK169.out 0).trans rfl, (blk_cell BK169.out 1).trans rfl, (blk_cell BK169.out 2).trans rfl, (blk_cell BK169.out 3).trans rfl, (blk_cell BK165.out 0).trans rfl, (blk_cell BK165.out 1).trans rfl, (blk_cell BK165.out 2).trans rfl⟩ (fun hHeld => ?_)
                  clear hK K
                  refine norm_ (a' := ?_) ?_ ?_
                  rotate_left
                  · show Act.put _ (some 60) _ = _
                    simp only [Act.put, List.setIfInBounds_toArray, List.set_cons_zero, List.set_cons_succ, i64_w, i32_w]
                    rfl
                  refine qU 26 (some 61) rfl rfl HT_.out ?_
                  refine qU 27 (some 62) rfl rfl HT_.out ?_
                  refine qU 28 (some 63) rfl rfl HT_.out ?_
                  refine qU 29 (some 64) rfl rfl HT_.out ?_
                  refine qU 31 (some 66) rfl rfl HT_.out ?_
                  refine qT7 30 (some 65) rfl rfl HT_.out HW_.out hHeld ?_
                  refine qT7 32 (some 67) rfl rfl HT_.out HW_.out hHeld ?_
                  refine one_ (i := 33) (N := some 68) #[T,T,T,T,T,T,T,T,T,T,T,T,T,T,T,T,T,T,T,T,T,T,T,T,T,T,T,T,T,T,T,T,T,T,F,F,F,F,F,F,F,F,F,F,F] rfl rfl (one_of HT_.out (by kernel_rfl)) (by decide) (fun K hK => ?_)
                  refine goes_ Try.func45 (by kernel_rfl) rfl #[.int .i64 ((rd_T66 l0_2 x3_2).f3), .int .i64 1, .int .i64 a0_1] (by rfl) rfl rfl nM ?_
                  with_reducible refine (spec_l01In.calls ((rd_T66 l0_2 x3_2).f3) 1 a0_1 true _ A42.out).mono ?_
                  rintro e w' ⟨rfl, ⟨nd, rfl⟩⟩
                  refine ⟨_, rfl, ?_⟩
                  refine hK.out _ _ ⟨(blk_cell BK169.out 0).trans rfl, (blk_cell BK169.out 1).trans rfl, (blk_cell BK169.out 2).trans rfl, (blk_cell BK169.out 3).trans rfl, (blk_cell BK165.out 0).trans rfl, (blk_cell BK165.out 1).trans rfl, (blk_cell BK165.out 2).trans rfl⟩ (fun hHeld => ?_)
                  clear hK K
                  refine norm_ (a' := ?_) ?_ ?_
                  rotate_left
                  · show Act.put _ (some 68) _ = _
                    simp only [Act.put, List.setIfInBounds_toArray, List.set_cons_zero, List.set_cons_succ, i64_w, i32_w]
                    rfl
                  refine qU 34 (some 69) rfl rfl HT_.out ?_
                  refine qU 35 (some 70) rfl rfl HT_.out ?_
                  refine qU 36 (some 71) rfl rfl HT_.out ?_
                  refine qU 37 (some 72) rfl rfl HT_.out ?_
                  refine qU 39 (some 74) rfl rfl HT_.out ?_
                  refine qT7 38 (some 73) rfl rfl HT_.out HW_.out hHeld ?_
                  refine qT7 40 (some 75) rfl rfl HT_.out HW_.out hHeld ?_
                  refine qU 41 (some 76) rfl rfl HT_.out ?_
                  refine one_ (i := 42) (N := some 77) #[T,T,T,T,T,T,T,T,T,T,T,T,T,T,T,T,T,T,T,T,T,T,T,T,T,T,T,T,T,T,T,T,T,T,T,T,T,T,T,T,T,T,T,F,F] rfl rfl (one_of HT_.out (by kernel_rfl)) (by decide) (fun K hK => ?_)
                  refine goes_ Try.func45 (by kernel_rfl) rfl #[.int .i64 ((rd_T66 l0_2 x3_2).f2), .int .i64 0, .int .i64 (wrap64 (((rd_T66 l0_2 x3_2).f3) - 1))] (by rfl) rfl rfl nM ?_
                  with_reducible refine (spec_l01In.calls ((rd_T66 l0_2 x3_2).f2) 0 (wrap64 (((rd_T66 l0_2 x3_2).f3) - 1)) t176 _ A44.out).mono ?_
                  rintro e w' ⟨rfl, ⟨nd, rfl⟩⟩
                  refine ⟨_, rfl, ?_⟩
                  refine hK.out _ _ ⟨(blk_cell BK169.out 0).trans rfl, (blk_cell BK169.out 1).trans rfl, (blk_cell BK169.out 2).trans rfl, (blk_cell BK169.out 3).trans rfl, (blk_cell BK165.out 0).trans rfl, (blk_cell BK165.out 1).trans rfl, (blk_cell BK165.out 2).trans rfl⟩ (fun hHeld => ?_)
                  clear hK K
                  refine norm_ (a' := ?_) ?_ ?_
                  rotate_left
                  · show Act.put _ (some 77) _ = _
                    simp only [Act.put, List.setIfInBounds_toArray, List.set_cons_zero, List.set_cons_succ, i64_w, i32_w]
                    rfl
                  refine qU 43 (some 78) rfl rfl HT_.out ?_
                  refine qU 44 (some 79) rfl rfl HT_.out ?_
                  refine done_ (done_of HT_.out (by kernel_rfl)) ?_
                  try go_wp2
                  go_meet
                  case rel => exact ⟨_, (!t176), nS, H', ⟨by have := HJ1.out; have := HK2.out; first | omega | exact Nat.le_refl _⟩, ⟨by exact nB BK165.out⟩, ⟨by exact nB BK169.out⟩, ⟨nH2 HB.out GE165.out GE169.out⟩⟩
                · replace c43 := Bool.eq_false_iff.mpr c43
                  subst c43
                  rw [if_neg nN] at H
                  have H' := aM H
                  clear H
                  try go_wp2
                  have n0_ : Aside0 (((((w16.setCell ⟨gb169, 0, none⟩ (.int .i64 ((rd_T66 l0_2 x3_2).f0))).setCell ⟨gb169, 1, none⟩ (.int .i64 ((rd_T66 l0_2 x3_2).f1))).setCell ⟨gb169, 2, none⟩ (.int .i64 ((rd_T66 l0_2 x3_2).f2))).setCell ⟨gb169, 3, none⟩ (.int .i64 ((rd_T66 l0_2 x3_2).f3))).heap[gb165]? = some (.cells #[.int .i64 a0_0, .int .i64 a0_1, .slice (some ad168) l0_2.length c0_2] 29 (0, 0))) := ⟨by refine nE ?_; refine blk_far ?_ NB165_169.out _; refine nE ?_; refine blk_far ?_ NB165_169.out _; refine nE ?_; refine blk_far ?_ NB165_169.out _; refine nE ?_; refine blk_far ?_ NB165_169.out _; exact nB BK165.out⟩
                  have n1_ : Aside0 (((((w16.setCell ⟨gb169, 0, none⟩ (.int .i64 ((rd_T66 l0_2 x3_2).f0))).setCell ⟨gb169, 1, none⟩ (.int .i64 ((rd_T66 l0_2 x3_2).f1))).setCell ⟨gb169, 2, none⟩ (.int .i64 ((rd_T66 l0_2 x3_2).f2))).setCell ⟨gb169, 3, none⟩ (.int .i64 ((rd_T66 l0_2 x3_2).f3))).heap[gb169]? = some (.cells #[.int .i64 ((rd_T66 l0_2 x3_2).f0), .int .i64 ((rd_T66 l0_2 x3_2).f1), .int .i64 ((rd_T66 l0_2 x3_2).f2), .int .i64 ((rd_T66 l0_2 x3_2).f3)] 66 (0, 0))) := ⟨by refine nE ?_; refine blk_put (cs := #[.int .i64 ((rd_T66 l0_2 x3_2).f0), .int .i64 ((rd_T66 l0_2 x3_2).f1), .int .i64 ((rd_T66 l0_2 x3_2).f2), .int .i64 0]) ?_ 3 _ rfl; refine nE ?_; refine blk_put (cs := #[.int .i64 ((rd_T66 l0_2 x3_2).f0), .int .i64 ((rd_T66 l0_2 x3_2).f1), .int .i64 0, .int .i64 0]) ?_ 2 _ rfl; refine nE ?_; refine blk_put (cs := #[.int .i64 ((rd_T66 l0_2 x3_2).f0), .int .i64 0, .int .i64 0, .int .i64 0]) ?_ 1 _ rfl; refine nE ?_; refine blk_put (cs := #[.int .i64 0, .int .i64 0, .int .i64 0, .int .i64 0]) ?_ 0 _ rfl; exact nB BK169.out⟩
                  have n2_ : Aside0 (Below w.heap.size w ((((w16.setCell ⟨gb169, 0, none⟩ (.int .i64 ((rd_T66 l0_2 x3_2).f0))).setCell ⟨gb169, 1, none⟩ (.int .i64 ((rd_T66 l0_2 x3_2).f1))).setCell ⟨gb169, 2, none⟩ (.int .i64 ((rd_T66 l0_2 x3_2).f2))).setCell ⟨gb169, 3, none⟩ (.int .i64 ((rd_T66 l0_2 x3_2).f3)))) := ⟨nH2 HB.out GE165.out GE169.out⟩
                  (try clear BK165); (try clear BK169); (try clear HB)
                  generalize ((((w16.setCell ⟨gb169, 0, none⟩ (.int .i64 ((rd_T66 l0_2 x3_2).f0))).setCell ⟨gb169, 1, none⟩ (.int .i64 ((rd_T66 l0_2 x3_2).f1))).setCell ⟨gb169, 2, none⟩ (.int .i64 ((rd_T66 l0_2 x3_2).f2))).setCell ⟨gb169, 3, none⟩ (.int .i64 ((rd_T66 l0_2 x3_2).f3))) = w47 at n0_ n1_ n2_ ⊢
                  have BK165 := n0_; have BK169 := n1_; have HB := n2_; clear n0_ n1_ n2_
                  have n_ := aA (blk_drew BK165.out) <| aA (blk_drew BK169.out) <| aM (below_drew1 HB.out); clear BK165 BK169 HB; obtain ⟨BK165, BK169, HB⟩ := n_
                  refine start_ (n := 45) (S := fun w' => w'.cell? ⟨gb169, 0, none⟩ = some (.int .i64 ((rd_T66 l0_2 x3_2).f0)) ∧ w'.cell? ⟨gb169, 1, none⟩ = some (.int .i64 ((rd_T66 l0_2 x3_2).f1)) ∧ w'.cell? ⟨gb169, 2, none⟩ = some (.int .i64 ((rd_T66 l0_2 x3_2).f2)) ∧ w'.cell? ⟨gb169, 3, none⟩ = some (.int .i64 ((rd_T66 l0_2 x3_2).f3)) ∧ w'.cell? ⟨gb165, 0, none⟩ = some (.int .i64 a0_0) ∧ w'.cell? ⟨gb165, 1, none⟩ = some (.int .i64 a0_1) ∧ w'.cell? ⟨gb165, 2, none⟩ = some (.slice (some ad168) l0_2.length c0_2)) (ds := []) #[F,F,F,F,F,F,F,F,F,F,F,F,F,F,F,F,F,F,F,F,F,F,F,F,F,F,F,F,F,F,F,F,F,F,F,F,F,F,F,F,F,F,F,F,F] (by kernel_rfl) rfl rfl ⟨(blk_cell BK169.out 0).trans rfl, (blk_cell BK169.out 1).trans rfl, (blk_cell BK169.out 2).trans rfl, (blk_cell BK169.out 3).trans rfl, (blk_cell BK165.out 0).trans rfl, (blk_cell BK165.out 1).trans rfl, (blk_cell BK165.out 2).trans rfl⟩ (fun hHeld => ?_); refine with_tabW spec_TrainOk.tab7 spec_TrainOk.bits7 (fun HT_ HW_ => ?_)
                  generalize w47.drew = w48 at BK165 BK169 HB hHeld ⊢
                  refine qU 0 (some 35) rfl rfl HT_.out ?_
                  refine qT7 1 (some 36) rfl rfl HT_.out HW_.out hHeld ?_
                  refine qU 2 (some 37) rfl rfl HT_.out ?_
                  refine qU 3 (some 38) rfl rfl HT_.out ?_
                  refine qU 4 (some 39) rfl rfl HT_.out ?_
                  refine qU 5 (some 40) rfl rfl HT_.out ?_
                  refine qU 6 (some 41) rfl rfl HT_.out ?_
                  refine qV 7 (some 42) rfl rfl HT_.out ?_
                  refine qV 8 (some 43) rfl rfl HT_.out ?_
                  refine qV 9 (some 44) rfl rfl HT_.out ?_
                  refine qV 10 (some 45) rfl rfl HT_.out ?_
                  refine qV 11 (some 46) rfl rfl HT_.out ?_
                  refine qV 12 (some 47) rfl rfl HT_.out ?_
                  refine qV 13 (some 48) rfl rfl HT_.out ?_
                  refine qV 14 (some 49) rfl rfl HT_.out ?_
                  refine qV 15 (some 50) rfl rfl HT_.out ?_
                  refine qV 16 (some 51) rfl rfl HT_.out ?_
                  refine qU 17 (some 52) rfl rfl HT_.out ?_
                  refine qU 18 (some 53) rfl rfl HT_.out ?_
                  refine qU 19 (some 54) rfl rfl HT_.out ?_
                  refine qU 20 (some 55) rfl rfl HT_.out ?_
                  refine qU 22 (some 57) rfl rfl HT_.out ?_
                  refine qT7 21 (some 56) rfl rfl HT_.out HW_.out hHeld ?_
                  refine qT7 23 (some 58) rfl rfl HT_.out HW_.out hHeld ?_
                  refine qU 24 (some 59) rfl rfl HT_.out ?_
                  refine one_ (i := 25) (N := some 60) #[T,T,T,T,T,T,T,T,T,T,T,T,T,T,T,T,T,T,T,T,T,T,T,T,T,T,F,F,F,F,F,F,F,F,F,F,F,F,F,F,F,F,F,F,F] rfl rfl (one_of HT_.out (by kernel_rfl)) (by decide) (fun K hK => ?_)
                  refine goes_ Try.func45 (by kernel_rfl) rfl #[.int .i64 ((rd_T66 l0_2 x3_2).f1), .int .i64 0, .int .i64 (wrap64 (a0_0 - 1))] (by rfl) rfl rfl nM ?_
                  with_reducible refine (spec_l01In.calls ((rd_T66 l0_2 x3_2).f1) 0 (wrap64 (a0_0 - 1)) true _ A40.out).mono ?_
                  rintro e w' ⟨rfl, ⟨nd, rfl⟩⟩
                  refine ⟨_, rfl, ?_⟩
                  refine hK.out _ _ ⟨(blk_cell BK169.out 0).trans rfl, (blk_cell BK169.out 1).trans rfl, (blk_cell BK169.out 2).trans rfl, (blk_cell BK169.out 3).trans rfl, (blk_cell BK165.out 0).trans rfl, (blk_cell BK165.out 1).trans rfl, (blk_cell BK165.out 2).trans rfl⟩ (fun hHeld => ?_)
                  clear hK K
                  refine norm_ (a' := ?_) ?_ ?_
                  rotate_left
                  · show Act.put _ (some 60) _ = _
                    simp only [Act.put, List.setIfInBounds_toArray, List.set_cons_zero, List.set_cons_succ, i64_w, i32_w]
                    rfl
                  refine qU 26 (some 61) rfl rfl HT_.out ?_
                  refine qU 27 (some 62) rfl rfl HT_.out ?_
                  refine qU 28 (some 63) rfl rfl HT_.out ?_
                  refine qU 29 (some 64) rfl rfl HT_.out ?_
                  refine qU 31 (some 66) rfl rfl HT_.out ?_
                  refine qT7 30 (some 65) rfl rfl HT_.out HW_.out hHeld ?_
                  refine qT7 32 (some 67) rfl rfl HT_.out HW_.out hHeld ?_
                  refine one_ (i := 33) (N := some 68) #[T,T,T,T,T,T,T,T,T,T,T,T,T,T,T,T,T,T,T,T,T,T,T,T,T,T,T,T,T,T,T,T,T,T,F,F,F,F,F,F,F,F,F,F,F] rfl rfl (one_of HT_.out (by kernel_rfl)) (by decide) (fun K hK => ?_)
                  refine goes_ Try.func45 (by kernel_rfl) rfl #[.int .i64 ((rd_T66 l0_2 x3_2).f3), .int .i64 1, .int .i64 a0_1] (by rfl) rfl rfl nM ?_
                  with_reducible refine (spec_l01In.calls ((rd_T66 l0_2 x3_2).f3) 1 a0_1 false _ A42.out).mono ?_
                  rintro e w' ⟨rfl, ⟨nd, rfl⟩⟩
                  refine ⟨_, rfl, ?_⟩
                  refine hK.out _ _ ⟨(blk_cell BK169.out 0).trans rfl, (blk_cell BK169.out 1).trans rfl, (blk_cell BK169.out 2).trans rfl, (blk_cell BK169.out 3).trans rfl, (blk_cell BK165.out 0).trans rfl, (blk_cell BK165.out 1).trans rfl, (blk_cell BK165.out 2).trans rfl⟩ (fun hHeld => ?_)
                  clear hK K
                  refine norm_ (a' := ?_) ?_ ?_
                  rotate_left
                  · show Act.put _ (some 68) _ = _
                    simp only [Act.put, List.setIfInBounds_toArray, List.set_cons_zero, List.set_cons_succ, i64_w, i32_w]
                    rfl
                  refine qU 34 (some 69) rfl rfl HT_.out ?_
                  refine qU 35 (some 70) rfl rfl HT_.out ?_
                  refine qU 36 (some 71) rfl rfl HT_.out ?_
                  refine qV 37 (some 72) rfl rfl HT_.out ?_
                  refine qV 38 (some 73) rfl rfl HT_.out ?_
                  refine qV 39 (some 74) rfl rfl HT_.out ?_
                  refine qV 40 (some 75) rfl rfl HT_.out ?_
                  refine qV 41 (some 76) rfl rfl HT_.out ?_
                  refine qV 42 (some 77) rfl rfl HT_.out ?_
                  refine qV 43 (some 78) rfl rfl HT_.out ?_
                  refine qU 44 (some 79) rfl rfl HT_.out ?_
                  refine done_ (done_of HT_.out (by kernel_rfl)) ?_
                  try go_wp2
                  go_meet
                  case rel => exact ⟨_, (true), nS, H', ⟨by have := HJ1.out; have := HK2.out; first | omega | exact Nat.le_refl _⟩, ⟨by exact nB BK165.out⟩, ⟨by exact nB BK169.out⟩, ⟨nH2 HB.out GE165.out GE169.out⟩⟩
              · replace c41 := Bool.eq_false_iff.mpr c41
                subst c41
                rw [if_neg nN] at H
                have H' := aM H
                clear H
                try go_wp2
                have n0_ : Aside0 (((((w16.setCell ⟨gb169, 0, none⟩ (.int .i64 ((rd_T66 l0_2 x3_2).f0))).setCell ⟨gb169, 1, none⟩ (.int .i64 ((rd_T66 l0_2 x3_2).f1))).setCell ⟨gb169, 2, none⟩ (.int .i64 ((rd_T66 l0_2 x3_2).f2))).setCell ⟨gb169, 3, none⟩ (.int .i64 ((rd_T66 l0_2 x3_2).f3))).heap[gb165]? = some (.cells #[.int .i64 a0_0, .int .i64 a0_1, .slice (some ad168) l0_2.length c0_2] 29 (0, 0))) := ⟨by refine nE ?_; refine blk_far ?_ NB165_169.out _; refine nE ?_; refine blk_far ?_ NB165_169.out _; refine nE ?_; refine blk_far ?_ NB165_169.out _; refine nE ?_; refine blk_far ?_ NB165_169.out _; exact nB BK165.out⟩
                have n1_ : Aside0 (((((w16.setCell ⟨gb169, 0, none⟩ (.int .i64 ((rd_T66 l0_2 x3_2).f0))).setCell ⟨gb169, 1, none⟩ (.int .i64 ((rd_T66 l0_2 x3_2).f1))).setCell ⟨gb169, 2, none⟩ (.int .i64 ((rd_T66 l0_2 x3_2).f2))).setCell ⟨gb169, 3, none⟩ (.int .i64 ((rd_T66 l0_2 x3_2).f3))).heap[gb169]? = some (.cells #[.int .i64 ((rd_T66 l0_2 x3_2).f0), .int .i64 ((rd_T66 l0_2 x3_2).f1), .int .i64 ((rd_T66 l0_2 x3_2).f2), .int .i64 ((rd_T66 l0_2 x3_2).f3)] 66 (0, 0))) := ⟨by refine nE ?_; refine blk_put (cs := #[.int .i64 ((rd_T66 l0_2 x3_2).f0), .int .i64 ((rd_T66 l0_2 x3_2).f1), .int .i64 ((rd_T66 l0_2 x3_2).f2), .int .i64 0]) ?_ 3 _ rfl; refine nE ?_; refine blk_put (cs := #[.int .i64 ((rd_T66 l0_2 x3_2).f0), .int .i64 ((rd_T66 l0_2 x3_2).f1), .int .i64 0, .int .i64 0]) ?_ 2 _ rfl; refine nE ?_; refine blk_put (cs := #[.int .i64 ((rd_T66 l0_2 x3_2).f0), .int .i64 0, .int .i64 0, .int .i64 0]) ?_ 1 _ rfl; refine nE ?_; refine blk_put (cs := #[.int .i64 0, .int .i64 0, .int .i64 0, .int .i64 0]) ?_ 0 _ rfl; exact nB BK169.out⟩
                have n2_ : Aside0 (Below w.heap.size w ((((w16.setCell ⟨gb169, 0, none⟩ (.int .i64 ((rd_T66 l0_2 x3_2).f0))).setCell ⟨gb169, 1, none⟩ (.int .i64 ((rd_T66 l0_2 x3_2).f1))).setCell ⟨gb169, 2, none⟩ (.int .i64 ((rd_T66 l0_2 x3_2).f2))).setCell ⟨gb169, 3, none⟩ (.int .i64 ((rd_T66 l0_2 x3_2).f3)))) := ⟨nH2 HB.out GE165.out GE169.out⟩
                (try clear BK165); (try clear BK169); (try clear HB)
                generalize ((((w16.setCell ⟨gb169, 0, none⟩ (.int .i64 ((rd_T66 l0_2 x3_2).f0))).setCell ⟨gb169, 1, none⟩ (.int .i64 ((rd_T66 l0_2 x3_2).f1))).setCell ⟨gb169, 2, none⟩ (.int .i64 ((rd_T66 l0_2 x3_2).f2))).setCell ⟨gb169, 3, none⟩ (.int .i64 ((rd_T66 l0_2 x3_2).f3))) = w49 at n0_ n1_ n2_ ⊢
                have BK165 := n0_; have BK169 := n1_; have HB := n2_; clear n0_ n1_ n2_
                have n_ := aA (blk_drew BK165.out) <| aA (blk_drew BK169.out) <| aM (below_drew1 HB.out); clear BK165 BK169 HB; obtain ⟨BK165, BK169, HB⟩ := n_
                refine start_ (n := 45) (S := fun w' => w'.cell? ⟨gb169, 0, none⟩ = some (.int .i64 ((rd_T66 l0_2 x3_2).f0)) ∧ w'.cell? ⟨gb169, 1, none⟩ = some (.int .i64 ((rd_T66 l0_2 x3_2).f1)) ∧ w'.cell? ⟨gb169, 2, none⟩ = some (.int .i64 ((rd_T66 l0_2 x3_2).f2)) ∧ w'.cell? ⟨gb169, 3, none⟩ = some (.int .i64 ((rd_T66 l0_2 x3_2).f3)) ∧ w'.cell? ⟨gb165, 0, none⟩ = some (.int .i64 a0_0) ∧ w'.cell? ⟨gb165, 1, none⟩ = some (.int .i64 a0_1) ∧ w'.cell? ⟨gb165, 2, none⟩ = some (.slice (some ad168) l0_2.length c0_2)) (ds := []) #[F,F,F,F,F,F,F,F,F,F,F,F,F,F,F,F,F,F,F,F,F,F,F,F,F,F,F,F,F,F,F,F,F,F,F,F,F,F,F,F,F,F,F,F,F] (by kernel_rfl) rfl rfl ⟨(blk_cell BK169.out 0).trans rfl, (blk_cell BK169.out 1).trans rfl, (blk_cell BK169.out 2).trans rfl, (blk_cell BK169.out 3).trans rfl, (blk_cell BK165.out 0).trans rfl, (blk_cell BK165.out 1).trans rfl, (blk_cell BK165.out 2).trans rfl⟩ (fun hHeld => ?_); refine with_tabW spec_TrainOk.tab7 spec_TrainOk.bits7 (fun HT_ HW_ => ?_)
                generalize w49.drew = w50 at BK165 BK169 HB hHeld ⊢
                refine qU 0 (some 35) rfl rfl HT_.out ?_
                refine qT7 1 (some 36) rfl rfl HT_.out HW_.out hHeld ?_
                refine qU 2 (some 37) rfl rfl HT_.out ?_
                refine qU 3 (some 38) rfl rfl HT_.out ?_
                refine qU 4 (some 39) rfl rfl HT_.out ?_
                refine qU 5 (some 40) rfl rfl HT_.out ?_
                refine qU 6 (some 41) rfl rfl HT_.out ?_
                refine qV 7 (some 42) rfl rfl HT_.out ?_
                refine qV 8 (some 43) rfl rfl HT_.out ?_
                refine qV 9 (some 44) rfl rfl HT_.out ?_
                refine qV 10 (some 45) rfl rfl HT_.out ?_
                refine qV 11 (some 46) rfl rfl HT_.out ?_
                refine qV 12 (some 47) rfl rfl HT_.out ?_
                refine qV 13 (some 48) rfl rfl HT_.out ?_
                refine qV 14 (some 49) rfl rfl HT_.out ?_
                refine qV 15 (some 50) rfl rfl HT_.out ?_
                refine qV 16 (some 51) rfl rfl HT_.out ?_
                refine qU 17 (some 52) rfl rfl HT_.out ?_
                refine qU 18 (some 53) rfl rfl HT_.out ?_
                refine qU 19 (some 54) rfl rfl HT_.out ?_
                refine qU 20 (some 55) rfl rfl HT_.out ?_
                refine qU 22 (some 57) rfl rfl HT_.out ?_
                refine qT7 21 (some 56) rfl rfl HT_.out HW_.out hHeld ?_
                refine qT7 23 (some 58) rfl rfl HT_.out HW_.out hHeld ?_
                refine qU 24 (some 59) rfl rfl HT_.out ?_
                refine one_ (i := 25) (N := some 60) #[T,T,T,T,T,T,T,T,T,T,T,T,T,T,T,T,T,T,T,T,T,T,T,T,T,T,F,F,F,F,F,F,F,F,F,F,F,F,F,F,F,F,F,F,F] rfl rfl (one_of HT_.out (by kernel_rfl)) (by decide) (fun K hK => ?_)
                refine goes_ Try.func45 (by kernel_rfl) rfl #[.int .i64 ((rd_T66 l0_2 x3_2).f1), .int .i64 0, .int .i64 (wrap64 (a0_0 - 1))] (by rfl) rfl rfl nM ?_
                with_reducible refine (spec_l01In.calls ((rd_T66 l0_2 x3_2).f1) 0 (wrap64 (a0_0 - 1)) false _ A40.out).mono ?_
                rintro e w' ⟨rfl, ⟨nd, rfl⟩⟩
                refine ⟨_, rfl, ?_⟩
                refine hK.out _ _ ⟨(blk_cell BK169.out 0).trans rfl, (blk_cell BK169.out 1).trans rfl, (blk_cell BK169.out 2).trans rfl, (blk_cell BK169.out 3).trans rfl, (blk_cell BK165.out 0).trans rfl, (blk_cell BK165.out 1).trans rfl, (blk_cell BK165.out 2).trans rfl⟩ (fun hHeld => ?_)
                clear hK K
                refine norm_ (a' := ?_) ?_ ?_
                rotate_left
                · show Act.put _ (some 60) _ = _
                  simp only [Act.put, List.setIfInBounds_toArray, List.set_cons_zero, List.set_cons_succ, i64_w, i32_w]
                  rfl
                refine qU 26 (some 61) rfl rfl HT_.out ?_
                refine qU 27 (some 62) rfl rfl HT_.out ?_
                refine qU 28 (some 63) rfl rfl HT_.out ?_
                refine qV 29 (some 64) rfl rfl HT_.out ?_
                refine qV 30 (some 65) rfl rfl HT_.out ?_
                refine qV 31 (some 66) rfl rfl HT_.out ?_
                refine qV 32 (some 67) rfl rfl HT_.out ?_
                refine qV 33 (some 68) rfl rfl HT_.out ?_
                refine qV 34 (some 69) rfl rfl HT_.out ?_
                refine qU 35 (some 70) rfl rfl HT_.out ?_
                refine qU 36 (some 71) rfl rfl HT_.out ?_
                refine qV 37 (some 72) rfl rfl HT_.out ?_
                refine qV 38 (some 73) rfl rfl HT_.out ?_
                refine qV 39 (some 74) rfl rfl HT_.out ?_
                refine qV 40 (some 75) rfl rfl HT_.out ?_
                refine qV 41 (some 76) rfl rfl HT_.out ?_
                refine qV 42 (some 77) rfl rfl HT_.out ?_
                refine qV 43 (some 78) rfl rfl HT_.out ?_
                refine qU 44 (some 79) rfl rfl HT_.out ?_
                refine done_ (done_of HT_.out (by kernel_rfl)) ?_
                try go_wp2
                go_meet
                case rel => exact ⟨_, (true), nS, H', ⟨by have := HJ1.out; have := HK2.out; first | omega | exact Nat.le_refl _⟩, ⟨by exact nB BK165.out⟩, ⟨by exact nB BK169.out⟩, ⟨nH2 HB.out GE165.out GE169.out⟩⟩
         case rest =>
          clear HC14; try clear p2; try clear c4; try clear p6; try clear c41; try clear c45
          obtain ⟨kq, x79_13, rfl, HA, HJ13, BK165, BK169, HB⟩ := hcut
          cases kq with
          | zero => exact absurd HA.out (by simp [spec_TrainOk.j2])
          | succ kj13 =>
           have H := HA.out; clear HA
           simp only [spec_TrainOk.j2] at H
           by_cases c51 : x79_13 = true
           · subst c51
             rw [if_pos rfl] at H; obtain rfl := Option.some.inj H; go_wp2; go_ret
             exact ⟨by first | rfl | (simp [errW_none, errW_some] <;> rfl) | (simp [*, errW_none, errW_some] <;> first | rfl | (simp [wrap64]; done)), nH2 HB.out GE165.out GE169.out⟩
           · replace c51 := Bool.eq_false_iff.mpr c51
             subst c51
             rw [if_neg nN] at H
             have H' := aM H
             clear H; go_wp2
             go_loopg [5] kj13 (fun kq v5 w' => ∃ (x5_4 : Int), v5 = .int .i64 x5_4 ∧ Aside0 (spec_TrainOk.l1 kq x3_2 x5_4 a0_0 a0_1 l0_2 ((rd_T66 l0_2 x3_2).f0) ((rd_T66 l0_2 x3_2).f1) ((rd_T66 l0_2 x3_2).f2) ((rd_T66 l0_2 x3_2).f3) = some r) ∧ Aside0 (kq ≤ kj13) ∧ Aside0 (w'.heap[gb165]? = some (.cells #[.int .i64 a0_0, .int .i64 a0_1, (.slice (some ad168) l0_2.length c0_2)] 29 (0, 0))) ∧ Aside0 (w'.heap[gb169]? = some (.cells #[.int .i64 ((rd_T66 l0_2 x3_2).f0), .int .i64 ((rd_T66 l0_2 x3_2).f1), .int .i64 ((rd_T66 l0_2 x3_2).f2), .int .i64 ((rd_T66 l0_2 x3_2).f3)] 66 (0, 0))) ∧ Aside0 (Below w.heap.size w w'))
             case atStart => exact ⟨(0), nS, H', ⟨Nat.le_refl _⟩, ⟨by exact nB BK165.out⟩, ⟨by exact nB BK169.out⟩, ⟨nH2 HB.out GE165.out GE169.out⟩⟩
             case round =>
              clear H'
              try clear p2; try clear c4; try clear c5; try clear p6; try clear c41; try clear c45; try clear c51; try clear p2; try clear p6
              obtain ⟨x5_4, rfl, HA, HK4, BK165, BK169, HB⟩ := hrel
              cases gk with
              | zero => exact absurd HA.out (by simp [spec_TrainOk.l1])
              | succ k4 =>
               have H := HA.out; clear HA
               simp only [spec_TrainOk.l1] at H
               by_cases c52 : x5_4 < x3_2
               · rw [if_pos c52] at H
                 have c52b0 : decide (x5_4 < x3_2) = true := decide_eq_true c52
                 clear c52
                 by_cases c53 : 0 ≤ x5_4
                 rotate_left
                 · (rw [if_neg c53] at H; exact absurd H (by simp))
                 rw [if_pos c53] at H
                 have c53b0 : decide (0 ≤ x5_4) = true := decide_eq_true c53
                 clear c53
                 by_cases c54 : x5_4 < (l0_2.length : Int)
                 rotate_left
                 · (rw [if_neg c54] at H; exact absurd H (by simp))
                 rw [if_pos c54] at H
                 have c54b0 : decide (x5_4 < (l0_2.length : Int)) = true := decide_eq_true c54
                 clear c54
                 by_cases c55 : ((rd_T66 l0_2 x5_4).f1) = ((rd_T66 l0_2 x3_2).f1)
                 · rw [if_pos c55] at H
                   have c55b0 : (((rd_T66 l0_2 x5_4).f1) == ((rd_T66 l0_2 x3_2).f1)) = true := beq_iff_eq.mpr c55
                   have c55b1 : (((rd_T66 l0_2 x5_4).f1) != ((rd_T66 l0_2 x3_2).f1)) = false := bne_eq_false_iff_eq.mpr c55
                   clear c55
                   by_cases c56 : ((rd_T66 l0_2 x5_4).f2) < ((rd_T66 l0_2 x3_2).f3)
                   · rw [if_pos c56] at H
                     have c56b0 : decide (((rd_T66 l0_2 x5_4).f2) < ((rd_T66 l0_2 x3_2).f3)) = true := decide_eq_true c56
                     clear c56
                     by_cases c57 : ((rd_T66 l0_2 x3_2).f2) < ((rd_T66 l0_2 x5_4).f3)
                     · rw [if_pos c57] at H
                       have c57b0 : decide (((rd_T66 l0_2 x3_2).f2) < ((rd_T66 l0_2 x5_4).f3)) = true := decide_eq_true c57
                       clear c57; obtain rfl := Option.some.inj H; have hnb58 := NB165_169.out; have hnc58 := NB169_165.out
                       obtain ⟨hcz59_0, hcz59_1, hcz59_2, hfz59_0, hfz59_1, hfz59_2⟩ := nK3 BK165.out
                       have p177 : 0 ≤ (x5_4 : Int) := of_decide_eq_true nQ
                       have q177 : x5_4 < (l0_2.length : Int) := of_decide_eq_true nQ
                       obtain ⟨ad177, e177, hx177_0, hx177_1, hx177_2, hx177_3⟩ := at_T66 HR0_2.out x5_4 p177 q177
                       obtain rfl : ad168 = ad177 := (by injection e177)
                       replace hx177_0 := (HB.out.cell (World.block_lt_of_cell? w _ hx177_0)).trans hx177_0
                       replace hx177_1 := (HB.out.cell (World.block_lt_of_cell? w _ hx177_1)).trans hx177_1
                       replace hx177_2 := (HB.out.cell (World.block_lt_of_cell? w _ hx177_2)).trans hx177_2
                       replace hx177_3 := (HB.out.cell (World.block_lt_of_cell? w _ hx177_3)).trans hx177_3
                       replace p177 := eq_true p177; replace q177 := eq_true q177
                       go_wp2_with (first | ((with_reducible refine gate_dst (N := 6) rfl ?_); (try (refine gate_guard (by rfl) ?_; dsimp only)); refine box_event ?hg (N := 6) ?hd (cs := #[.int .i64 0, .int .i64 0, .int .i64 0, .int .i64 0]) (t := 66) ?hr ?_; (case hd => rfl); (case hg => rfl); (case hr => first | (go_simp; done) | (go_simp; rfl)); intro gb178 hg w60 hbox hb; have n_ := aA (nBB BK165.out hb) <| aA (nBB BK169.out hb) <| aA (below_step (nH2 HB.out GE165.out GE169.out) hb) <| aA (hbox) <| aA (bS hg (nH2 HB.out GE165.out GE169.out)) <| aA (bS hg (nH2 HB.out GE165.out GE169.out)) <| aA (nBL BK165.out hg) <| aA (by rw [hg]; exact Nat.ne_of_gt (blk_lt (g := gb165) (o := .cells #[.int .i64 a0_0, .int .i64 a0_1, .slice (some ad168) l0_2.length c0_2] 29 (0, 0)) (nB BK165.out)) : gb178 ≠ gb165) <| aA (nBL BK169.out hg) <| aM (by rw [hg]; exact Nat.ne_of_gt (blk_lt (g := gb169) (o := .cells #[.int .i64 ((rd_T66 l0_2 x3_2).f0), .int .i64 ((rd_T66 l0_2 x3_2).f1), .int .i64 ((rd_T66 l0_2 x3_2).f2), .int .i64 ((rd_T66 l0_2 x3_2).f3)] 66 (0, 0)) (nB BK169.out)) : gb178 ≠ gb169); clear BK165 BK169 HB; obtain ⟨BK165, BK169, HB, BK178, GW178, GE178, NB165_178, NB178_165, NB169_178, NB178_169⟩ := n_; clear hb hbox hg; have hnb61 := NB178_165.out; have hnc61 := NB165_178.out; have hnb62 := NB178_169.out; have hnc62 := NB169_178.out; obtain ⟨hcz63_0, hcz63_1, hcz63_2, hcz63_3, hfz63_0, hfz63_1, hfz63_2, hfz63_3⟩ := nK4 BK178.out; obtain ⟨hcz64_0, hcz64_1, hcz64_2, hcz64_3, hfz64_0, hfz64_1, hfz64_2, hfz64_3⟩ := nK4 BK169.out))
                       go_ret
                       exact ⟨by first | rfl | (simp [errW_none, errW_some] <;> rfl) | (simp [*, errW_none, errW_some] <;> first | rfl | (simp [wrap64]; done)), nH3 HB.out GE165.out GE169.out GE178.out⟩
                     · rw [if_neg c57] at H
                       have c57b0 : decide (((rd_T66 l0_2 x3_2).f2) < ((rd_T66 l0_2 x5_4).f3)) = false := decide_eq_false c57
                       clear c57
                       have H' := aM H
                       clear H; have hnb65 := NB165_169.out; have hnc65 := NB169_165.out
                       obtain ⟨hcz66_0, hcz66_1, hcz66_2, hfz66_0, hfz66_1, hfz66_2⟩ := nK3 BK165.out
                       have p177 : 0 ≤ (x5_4 : Int) := of_decide_eq_true nQ
                       have q177 : x5_4 < (l0_2.length : Int) := of_decide_eq_true nQ
                       obtain ⟨ad177, e177, hx177_0, hx177_1, hx177_2, hx177_3⟩ := at_T66 HR0_2.out x5_4 p177 q177
                       obtain rfl : ad168 = ad177 := (by injection e177)
                       replace hx177_0 := (HB.out.cell (World.block_lt_of_cell? w _ hx177_0)).trans hx177_0
                       replace hx177_1 := (HB.out.cell (World.block_lt_of_cell? w _ hx177_1)).trans hx177_1
                       replace hx177_2 := (HB.out.cell (World.block_lt_of_cell? w _ hx177_2)).trans hx177_2
                       replace hx177_3 := (HB.out.cell (World.block_lt_of_cell? w _ hx177_3)).trans hx177_3
                       replace p177 := eq_true p177; replace q177 := eq_true q177
                       go_wp2_with (first | ((with_reducible refine gate_dst (N := 6) rfl ?_); (try (refine gate_guard (by rfl) ?_; dsimp only)); refine box_event ?hg (N := 6) ?hd (cs := #[.int .i64 0, .int .i64 0, .int .i64 0, .int .i64 0]) (t := 66) ?hr ?_; (case hd => rfl); (case hg => rfl); (case hr => first | (go_simp; done) | (go_simp; rfl)); intro gb178 hg w67 hbox hb; have n_ := aA (nBB BK165.out hb) <| aA (nBB BK169.out hb) <| aA (below_step (nH2 HB.out GE165.out GE169.out) hb) <| aA (hbox) <| aA (bS hg (nH2 HB.out GE165.out GE169.out)) <| aA (bS hg (nH2 HB.out GE165.out GE169.out)) <| aA (nBL BK165.out hg) <| aA (by rw [hg]; exact Nat.ne_of_gt (blk_lt (g := gb165) (o := .cells #[.int .i64 a0_0, .int .i64 a0_1, .slice (some ad168) l0_2.length c0_2] 29 (0, 0)) (nB BK165.out)) : gb178 ≠ gb165) <| aA (nBL BK169.out hg) <| aM (by rw [hg]; exact Nat.ne_of_gt (blk_lt (g := gb169) (o := .cells #[.int .i64 ((rd_T66 l0_2 x3_2).f0), .int .i64 ((rd_T66 l0_2 x3_2).f1), .int .i64 ((rd_T66 l0_2 x3_2).f2), .int .i64 ((rd_T66 l0_2 x3_2).f3)] 66 (0, 0)) (nB BK169.out)) : gb178 ≠ gb169); clear BK165 BK169 HB; obtain ⟨BK165, BK169, HB, BK178, GW178, GE178, NB165_178, NB178_165, NB169_178, NB178_169⟩ := n_; clear hb hbox hg; have hnb68 := NB178_165.out; have hnc68 := NB165_178.out; have hnb69 := NB178_169.out; have hnc69 := NB169_178.out; obtain ⟨hcz70_0, hcz70_1, hcz70_2, hcz70_3, hfz70_0, hfz70_1, hfz70_2, hfz70_3⟩ := nK4 BK178.out; obtain ⟨hcz71_0, hcz71_1, hcz71_2, hcz71_3, hfz71_0, hfz71_1, hfz71_2, hfz71_3⟩ := nK4 BK169.out))
                       go_roundg k4
                       case measure => have := HJ1.out; have := HK2.out; have := HJ13.out; have := HK4.out; omega
                       case rel => exact ⟨(wrap64 (x5_4 + 1)), nS, H', ⟨by have := HJ1.out; have := HK2.out; have := HJ13.out; have := HK4.out; omega⟩, ⟨by refine nE ?_; refine blk_far ?_ NB165_178.out _; refine nE ?_; refine blk_far ?_ NB165_178.out _; refine nE ?_; refine blk_far ?_ NB165_178.out _; refine nE ?_; refine blk_far ?_ NB165_178.out _; exact nB BK165.out⟩, ⟨by refine nE ?_; refine blk_far ?_ NB169_178.out _; refine nE ?_; refine blk_far ?_ NB169_178.out _; refine nE ?_; refine blk_far ?_ NB169_178.out _; refine nE ?_; refine blk_far ?_ NB169_178.out _; exact nB BK169.out⟩, ⟨nH3 HB.out GE165.out GE169.out GE178.out⟩⟩
                   · rw [if_neg c56] at H
                     have c56b0 : decide (((rd_T66 l0_2 x5_4).f2) < ((rd_T66 l0_2 x3_2).f3)) = false := decide_eq_false c56
                     clear c56
                     have H' := aM H
                     clear H; have hnb72 := NB165_169.out; have hnc72 := NB169_165.out
                     obtain ⟨hcz73_0, hcz73_1, hcz73_2, hfz73_0, hfz73_1, hfz73_2⟩ := nK3 BK165.out
                     have p177 : 0 ≤ (x5_4 : Int) := of_decide_eq_true nQ
                     have q177 : x5_4 < (l0_2.length : Int) := of_decide_eq_true nQ
                     obtain ⟨ad177, e177, hx177_0, hx177_1, hx177_2, hx177_3⟩ := at_T66 HR0_2.out x5_4 p177 q177
                     obtain rfl : ad168 = ad177 := (by injection e177)
                     replace hx177_0 := (HB.out.cell (World.block_lt_of_cell? w _ hx177_0)).trans hx177_0
                     replace hx177_1 := (HB.out.cell (World.block_lt_of_cell? w _ hx177_1)).trans hx177_1
                     replace hx177_2 := (HB.out.cell (World.block_lt_of_cell? w _ hx177_2)).trans hx177_2
                     replace hx177_3 := (HB.out.cell (World.block_lt_of_cell? w _ hx177_3)).trans hx177_3
                     replace p177 := eq_true p177; replace q177 := eq_true q177
                     go_wp2_with (first | ((with_reducible refine gate_dst (N := 6) rfl ?_); (try (refine gate_guard (by rfl) ?_; dsimp only)); refine box_event ?hg (N := 6) ?hd (cs := #[.int .i64 0, .int .i64 0, .int .i64 0, .int .i64 0]) (t := 66) ?hr ?_; (case hd => rfl); (case hg => rfl); (case hr => first | (go_simp; done) | (go_simp; rfl)); intro gb178 hg w74 hbox hb; have n_ := aA (nBB BK165.out hb) <| aA (nBB BK169.out hb) <| aA (below_step (nH2 HB.out GE165.out GE169.out) hb) <| aA (hbox) <| aA (bS hg (nH2 HB.out GE165.out GE169.out)) <| aA (bS hg (nH2 HB.out GE165.out GE169.out)) <| aA (nBL BK165.out hg) <| aA (by rw [hg]; exact Nat.ne_of_gt (blk_lt (g := gb165) (o := .cells #[.int .i64 a0_0, .int .i64 a0_1, .slice (some ad168) l0_2.length c0_2] 29 (0, 0)) (nB BK165.out)) : gb178 ≠ gb165) <| aA (nBL BK169.out hg) <| aM (by rw [hg]; exact Nat.ne_of_gt (blk_lt (g := gb169) (o := .cells #[.int .i64 ((rd_T66 l0_2 x3_2).f0), .int .i64 ((rd_T66 l0_2 x3_2).f1), .int .i64 ((rd_T66 l0_2 x3_2).f2), .int .i64 ((rd_T66 l0_2 x3_2).f3)] 66 (0, 0)) (nB BK169.out)) : gb178 ≠ gb169); clear BK165 BK169 HB; obtain ⟨BK165, BK169, HB, BK178, GW178, GE178, NB165_178, NB178_165, NB169_178, NB178_169⟩ := n_; clear hb hbox hg; have hnb75 := NB178_165.out; have hnc75 := NB165_178.out; have hnb76 := NB178_169.out; have hnc76 := NB169_178.out; obtain ⟨hcz77_0, hcz77_1, hcz77_2, hcz77_3, hfz77_0, hfz77_1, hfz77_2, hfz77_3⟩ := nK4 BK178.out; obtain ⟨hcz78_0, hcz78_1, hcz78_2, hcz78_3, hfz78_0, hfz78_1, hfz78_2, hfz78_3⟩ := nK4 BK169.out))
                     go_roundg k4
                     case measure => have := HJ1.out; have := HK2.out; have := HJ13.out; have := HK4.out; omega
                     case rel => exact ⟨(wrap64 (x5_4 + 1)), nS, H', ⟨by have := HJ1.out; have := HK2.out; have := HJ13.out; have := HK4.out; omega⟩, ⟨by refine nE ?_; refine blk_far ?_ NB165_178.out _; refine nE ?_; refine blk_far ?_ NB165_178.out _; refine nE ?_; refine blk_far ?_ NB165_178.out _; refine nE ?_; refine blk_far ?_ NB165_178.out _; exact nB BK165.out⟩, ⟨by refine nE ?_; refine blk_far ?_ NB169_178.out _; refine nE ?_; refine blk_far ?_ NB169_178.out _; refine nE ?_; refine blk_far ?_ NB169_178.out _; refine nE ?_; refine blk_far ?_ NB169_178.out _; exact nB BK169.out⟩, ⟨nH3 HB.out GE165.out GE169.out GE178.out⟩⟩
                 · rw [if_neg c55] at H
                   have c55b0 : (((rd_T66 l0_2 x5_4).f1) == ((rd_T66 l0_2 x3_2).f1)) = false := beq_eq_false_iff_ne.mpr c55
                   have c55b1 : (((rd_T66 l0_2 x5_4).f1) != ((rd_T66 l0_2 x3_2).f1)) = true := bne_iff_ne.mpr c55
                   have H' := aM H
                   clear H; have hnb79 := NB165_169.out; have hnc79 := NB169_165.out
                   obtain ⟨hcz80_0, hcz80_1, hcz80_2, hfz80_0, hfz80_1, hfz80_2⟩ := nK3 BK165.out
                   have p177 : 0 ≤ (x5_4 : Int) := of_decide_eq_true nQ
                   have q177 : x5_4 < (l0_2.length : Int) := of_decide_eq_true nQ
                   obtain ⟨ad177, e177, hx177_0, hx177_1, hx177_2, hx177_3⟩ := at_T66 HR0_2.out x5_4 p177 q177
                   obtain rfl : ad168 = ad177 := (by injection e177)
                   replace hx177_0 := (HB.out.cell (World.block_lt_of_cell? w _ hx177_0)).trans hx177_0
                   replace hx177_1 := (HB.out.cell (World.block_lt_of_cell? w _ hx177_1)).trans hx177_1
                   replace hx177_2 := (HB.out.cell (World.block_lt_of_cell? w _ hx177_2)).trans hx177_2
                   replace hx177_3 := (HB.out.cell (World.block_lt_of_cell? w _ hx177_3)).trans hx177_3
                   replace p177 := eq_true p177; replace q177 := eq_true q177
                   go_wp2_with (first | ((with_reducible refine gate_dst (N := 6) rfl ?_); (try (refine gate_guard (by rfl) ?_; dsimp only)); refine box_event ?hg (N := 6) ?hd (cs := #[.int .i64 0, .int .i64 0, .int .i64 0, .int .i64 0]) (t := 66) ?hr ?_; (case hd => rfl); (case hg => rfl); (case hr => first | (go_simp; done) | (go_simp; rfl)); intro gb178 hg w81 hbox hb; have n_ := aA (nBB BK165.out hb) <| aA (nBB BK169.out hb) <| aA (below_step (nH2 HB.out GE165.out GE169.out) hb) <| aA (hbox) <| aA (bS hg (nH2 HB.out GE165.out GE169.out)) <| aA (bS hg (nH2 HB.out GE165.out GE169.out)) <| aA (nBL BK165.out hg) <| aA (by rw [hg]; exact Nat.ne_of_gt (blk_lt (g := gb165) (o := .cells #[.int .i64 a0_0, .int .i64 a0_1, .slice (some ad168) l0_2.length c0_2] 29 (0, 0)) (nB BK165.out)) : gb178 ≠ gb165) <| aA (nBL BK169.out hg) <| aM (by rw [hg]; exact Nat.ne_of_gt (blk_lt (g := gb169) (o := .cells #[.int .i64 ((rd_T66 l0_2 x3_2).f0), .int .i64 ((rd_T66 l0_2 x3_2).f1), .int .i64 ((rd_T66 l0_2 x3_2).f2), .int .i64 ((rd_T66 l0_2 x3_2).f3)] 66 (0, 0)) (nB BK169.out)) : gb178 ≠ gb169); clear BK165 BK169 HB; obtain ⟨BK165, BK169, HB, BK178, GW178, GE178, NB165_178, NB178_165, NB169_178, NB178_169⟩ := n_; clear hb hbox hg; have hnb82 := NB178_165.out; have hnc82 := NB165_178.out; have hnb83 := NB178_169.out; have hnc83 := NB169_178.out; obtain ⟨hcz84_0, hcz84_1, hcz84_2, hcz84_3, hfz84_0, hfz84_1, hfz84_2, hfz84_3⟩ := nK4 BK178.out; obtain ⟨hcz85_0, hcz85_1, hcz85_2, hcz85_3, hfz85_0, hfz85_1, hfz85_2, hfz85_3⟩ := nK4 BK169.out))
                   go_roundg k4
                   case measure => have := HJ1.out; have := HK2.out; have := HJ13.out; have := HK4.out; omega
                   case rel => exact ⟨(wrap64 (x5_4 + 1)), nS, H', ⟨by have := HJ1.out; have := HK2.out; have := HJ13.out; have := HK4.out; omega⟩, ⟨by refine nE ?_; refine blk_far ?_ NB165_178.out _; refine nE ?_; refine blk_far ?_ NB165_178.out _; refine nE ?_; refine blk_far ?_ NB165_178.out _; refine nE ?_; refine blk_far ?_ NB165_178.out _; exact nB BK165.out⟩, ⟨by refine nE ?_; refine blk_far ?_ NB169_178.out _; refine nE ?_; refine blk_far ?_ NB169_178.out _; refine nE ?_; refine blk_far ?_ NB169_178.out _; refine nE ?_; refine blk_far ?_ NB169_178.out _; exact nB BK169.out⟩, ⟨nH3 HB.out GE165.out GE169.out GE178.out⟩⟩
               · rw [if_neg c52] at H
                 have c52b0 : decide (x5_4 < x3_2) = false := decide_eq_false c52
                 clear c52
                 have H' := aM H
                 clear H; go_wp2
                 go_roundg k4
                 case measure => have := HJ1.out; have := HK2.out; have := HJ13.out; have := HK4.out; omega
                 case rel => exact ⟨(wrap64 (x3_2 + 1)), nS, H', ⟨by have := HJ1.out; have := HK2.out; have := HJ13.out; have := HK4.out; omega⟩, ⟨by exact nB BK165.out⟩, ⟨nH2 HB.out GE165.out GE169.out⟩⟩
       · rw [if_neg c12] at H
         have c12b0 : decide (x3_2 < (l0_2.length : Int)) = false := decide_eq_false c12
         clear c12; obtain rfl := Option.some.inj H
         obtain ⟨hcz86_0, hcz86_1, hcz86_2, hfz86_0, hfz86_1, hfz86_2⟩ := nK3 BK165.out
         go_wp2; go_ret
         exact ⟨by first | rfl | (simp [errW_none, errW_some] <;> rfl) | (simp [*, errW_none, errW_some] <;> first | rfl | (simp [wrap64]; done)), nH1 HB.out GE165.out⟩
end Go.Proofs.Ytklikbjlfaednaa.P

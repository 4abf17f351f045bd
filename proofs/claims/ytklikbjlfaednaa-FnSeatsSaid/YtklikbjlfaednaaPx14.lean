/- Contracts of the functions of the program, each one with its plain Lean function; written by a program of the session out of the translation. -/
import Derived.Test.YtklikbjlfaednaaNe
import Derived.Test.YtklikbjlfaednaaNb
import Derived.Test.YtklikbjlfaednaaPx0
import Derived.Test.YtklikbjlfaednaaPx13
namespace Go.Proofs.Ytklikbjlfaednaa.P
open Go.RowKit Go.Proofs.YtklikbjlfaednaaW.PrintWords Go.Proofs.YtklikbjlfaednaaW.PrintLast Go.Proofs.YtklikbjlfaednaaW.PrintMore
attribute [local go_sem] max2_int min2_int max_two min_two max_three min_three max_four min_four   -- for this text's walks alone
set_option linter.unusedVariables false
set_option linter.unusedSimpArgs false
/-! ### spec_TrainOk: function 13 -/
theorem spec_TrainOk.mono_l : ∀ k, (∀ y0 y1 y2 y3, LeO (spec_TrainOk.j0 k y0 y1 y2 y3) (spec_TrainOk.j0 (k + 1) y0 y1 y2 y3)) ∧ (∀ y0 y1 y2 y3, LeO (spec_TrainOk.l0 k y0 y1 y2 y3) (spec_TrainOk.l0 (k + 1) y0 y1 y2 y3)) ∧ (∀ y0 y1 y2 y3 y4 y5 y6 y7 y8, LeO (spec_TrainOk.j2 k y0 y1 y2 y3 y4 y5 y6 y7 y8) (spec_TrainOk.j2 (k + 1) y0 y1 y2 y3 y4 y5 y6 y7 y8)) ∧ (∀ y0 y1 y2 y3 y4 y5 y6 y7 y8, LeO (spec_TrainOk.l1 k y0 y1 y2 y3 y4 y5 y6 y7 y8) (spec_TrainOk.l1 (k + 1) y0 y1 y2 y3 y4 y5 y6 y7 y8))
 | 0 => ⟨fun _ _ _ _ r h => by simp [spec_TrainOk.j0] at h, fun _ _ _ _ r h => by simp [spec_TrainOk.l0] at h, fun _ _ _ _ _ _ _ _ _ r h => by simp [spec_TrainOk.j2] at h, fun _ _ _ _ _ _ _ _ _ r h => by simp [spec_TrainOk.l1] at h⟩
 | k + 1 => by
  obtain ⟨ih0, ih1, ih2, ih3⟩ := spec_TrainOk.mono_l k
  refine ⟨?_, ?_, ?_, ?_⟩
  · intro y0 y1 y2 y3
    unfold spec_TrainOk.j0
    repeat' first
    | (with_reducible exact ih0 _ _ _ _)
    | (with_reducible exact ih1 _ _ _ _)
    | (with_reducible exact ih2 _ _ _ _ _ _ _ _ _)
    | (with_reducible exact ih3 _ _ _ _ _ _ _ _ _)
    | (with_reducible exact LeO.refl _)
    | (with_reducible exact LeO.none _)
    | (with_reducible refine LeO.ite ?_ ?_)
    | (with_reducible refine LeO.bind ?_ (fun _ => ?_))
    | exact ih0 _ _ _ _
    | exact ih1 _ _ _ _
    | exact ih2 _ _ _ _ _ _ _ _ _
    | exact ih3 _ _ _ _ _ _ _ _ _
    | exact LeO.none _
    | refine LeO.ite ?_ ?_
    | refine LeO.bind ?_ (fun _ => ?_)
  · intro y0 y1 y2 y3
    unfold spec_TrainOk.l0
    repeat' first
    | (with_reducible exact ih0 _ _ _ _)
    | (with_reducible exact ih1 _ _ _ _)
    | (with_reducible exact ih2 _ _ _ _ _ _ _ _ _)
    | (with_reducible exact ih3 _ _ _ _ _ _ _ _ _)
    | (with_reducible exact LeO.refl _)
    | (with_reducible exact LeO.none _)
    | (with_reducible refine LeO.ite ?_ ?_)
    | (with_reducible refine LeO.bind ?_ (fun _ => ?_))
    | exact ih0 _ _ _ _
    | exact ih1 _ _ _ _
    | exact ih2 _ _ _ _ _ _ _ _ _
    | exact ih3 _ _ _ _ _ _ _ _ _
    | exact LeO.none _
    | refine LeO.ite ?_ ?_
    | refine LeO.bind ?_ (fun _ => ?_)
  · intro y0 y1 y2 y3 y4 y5 y6 y7 y8
    unfold spec_TrainOk.j2
    repeat' first
    | (with_reducible exact ih0 _ _ _ _)
    | (with_reducible exact ih1 _ _ _ _)
    | (with_reducible exact ih2 _ _ _ _ _ _ _ _ _)
    | (with_reducible exact ih3 _ _ _ _ _ _ _ _ _)
    | (with_reducible exact LeO.refl _)
    | (with_reducible exact LeO.none _)
    | (with_reducible refine LeO.ite ?_ ?_)
    | (with_reducible refine LeO.bind ?_ (fun _ => ?_))
    | exact ih0 _ _ _ _
    | exact ih1 _ _ _ _
    | exact ih2 _ _ _ _ _ _ _ _ _
    | exact ih3 _ _ _ _ _ _ _ _ _
    | exact LeO.none _
    | refine LeO.ite ?_ ?_
    | refine LeO.bind ?_ (fun _ => ?_)
  · intro y0 y1 y2 y3 y4 y5 y6 y7 y8
    unfold spec_TrainOk.l1
    repeat' first
    | (with_reducible exact ih0 _ _ _ _)
    | (with_reducible exact ih1 _ _ _ _)
    | (with_reducible exact ih2 _ _ _ _ _ _ _ _ _)
    | (with_reducible exact ih3 _ _ _ _ _ _ _ _ _)
    | (with_reducible exact LeO.refl _)
    | (with_reducible exact LeO.none _)
    | (with_reducible refine LeO.ite ?_ ?_)
    | (with_reducible refine LeO.bind ?_ (fun _ => ?_))
    | exact ih0 _ _ _ _
    | exact ih1 _ _ _ _
    | exact ih2 _ _ _ _ _ _ _ _ _
    | exact ih3 _ _ _ _ _ _ _ _ _
    | exact LeO.none _
    | refine LeO.ite ?_ ?_
    | refine LeO.bind ?_ (fun _ => ?_)
theorem spec_TrainOk.mono : ∀ a0 a1 a2 k, LeO (spec_TrainOk.f k a0 a1 a2) (spec_TrainOk.f (k + 1) a0 a1 a2) := by
 intro a0 a1 a2 k
 obtain ⟨ih0, ih1, ih2, ih3⟩ := spec_TrainOk.mono_l k
 unfold spec_TrainOk.f
 repeat' first
  | (with_reducible exact ih0 _ _ _ _)
  | (with_reducible exact ih1 _ _ _ _)
  | (with_reducible exact ih2 _ _ _ _ _ _ _ _ _)
  | (with_reducible exact ih3 _ _ _ _ _ _ _ _ _)
  | (with_reducible exact LeO.refl _)
  | (with_reducible exact LeO.none _)
  | (with_reducible refine LeO.ite ?_ ?_)
  | (with_reducible refine LeO.bind ?_ (fun _ => ?_))
  | exact ih0 _ _ _ _
  | exact ih1 _ _ _ _
  | exact ih2 _ _ _ _ _ _ _ _ _
  | exact ih3 _ _ _ _ _ _ _ _ _
  | exact LeO.none _
  | refine LeO.ite ?_ ?_
  | refine LeO.bind ?_ (fun _ => ?_)
def spec_TrainOk.T7 : Bool × List (List Nat × List Nat) := (true, [([], []), ([0], [0]), ([1], [1]), ([2], [2]), ([3], [3]), ([4, 3], [3, 4]), ([5, 3, 3], [3, 5]), ([6], [6]), ([7, 6], [6, 7]), ([6], [6]), ([9, 6], [6, 9]), ([8, 10, 6], [6, 8, 10]), ([11, 6], [6, 11]), ([12, 6], [6, 12]), ([6], [6]), ([14, 6], [6, 14]), ([13, 15, 6], [6, 13, 15]), ([6, 16, 3], [3, 6, 16]), ([3, 17], [3, 17]), ([18, 6], [18]), ([19], [19]), ([20, 19], [19, 20]), ([19], [19]), ([22, 19], [19, 22]), ([23, 19], [19, 23]), ([21, 24, 19, 19], [19, 21, 24]), ([25, 19], [19, 25]), ([19, 26], [19, 26]), ([27, 25], [27]), ([28], [28]), ([29, 28], [28, 29]), ([28], [28]), ([31, 28], [28, 31]), ([30, 32, 28, 28], [28, 30, 32]), ([33, 28], [28, 33]), ([28, 34], [28, 34]), ([35, 33], [35]), ([36], [36]), ([37, 36], [36, 37]), ([36], [36]), ([39, 36], [36, 39]), ([40, 36], [36, 40]), ([38, 41, 36, 36], [36, 38, 41]), ([42, 36], [36, 42]), ([36, 43], [36, 43])])
def spec_TrainOk.B7 : List Nat := [0, 1, 3, 7, 15, 31, 63, 127, 255, 127, 639, 2047, 4095, 8191, 127, 16511, 65535, 131071, 262143, 524287, 1048575, 2097151, 1048575, 5242879, 13631487, 33554431, 67108863, 134217727, 268435455, 536870911, 1073741823, 536870911, 2684354559, 8589934591, 17179869183, 34359738367, 68719476735, 137438953471, 274877906943, 137438953471, 687194767359, 1786706395135, 4398046511103, 8796093022207, 17592186044415]
theorem spec_TrainOk.tab7 : rtab .any (opsOf Try.f13 7) = spec_TrainOk.T7 := by kernel_rfl
theorem spec_TrainOk.bits7 : waitsOk spec_TrainOk.T7.2 spec_TrainOk.B7 = true := by kernel_rfl
set_option maxHeartbeats 8000000 in
set_option maxRecDepth 100000 in
theorem spec_TrainOk.calls (k : Nat) (a0_0 : Int) (a0_1 : Int) (A0_2 : Option Addr) (c0_2 : Nat) (l0_2 : List (S66)) (r : Bool) (w : World) (hr0_2 : Kd.C k66 w A0_2 l0_2.length l0_2) (hc0_2 : l0_2.length ≤ c0_2) (h : spec_TrainOk.f k a0_0 a0_1 l0_2 = some r) :
 Calls Try.prog 13 #[.agg #[.int .i64 a0_0, .int .i64 a0_1, .slice A0_2 l0_2.length c0_2]] w fun e w' => e = .returned (.bool r) ∧ Below w.heap.size w w' := by
 have hu29 := Try.underlying29; have hu66 := Try.underlying66
 have HR0_2 := aM hr0_2
 have HC0_2 := aM hc0_2
 clear hr0_2 hc0_2
 have HB := aM (Below.refl w.heap.size w)
 have H : ((spec_l01In.f a0_0 1 60).bind fun t129 => (if t129 = true then ((spec_l01In.f a0_1 1 11).bind fun t130 => (if t130 = true then (spec_TrainOk.j0 k (decide ((l0_2.length : Int) > 200)) a0_0 a0_1 l0_2) else (spec_TrainOk.j0 k true a0_0 a0_1 l0_2))) else (spec_TrainOk.j0 k true a0_0 a0_1 l0_2))) = some r := h
 clear h
 have HC2 := aM H
 clear H
 go_enter Try.func13, Try.ntmps13
 go_upto_region 1 with (first | ((with_reducible refine gate_dst (N := 1) rfl ?_); (try (refine gate_guard (by rfl) ?_; dsimp only)); refine box_event ?hg (N := 1) ?hd (cs := #[.int .i64 a0_0, .int .i64 a0_1, .slice A0_2 l0_2.length c0_2]) (t := 29) ?hr ?_; (case hd => rfl); (case hg => rfl); (case hr => first | (go_simp; done) | (go_simp; rfl)); intro gb128 hg w3 hbox hb; have n_ := aA (below_step (nH HB.out) hb) <| aA (hbox) <| aA (bS hg (nH HB.out)) <| aM (bS hg (nH HB.out)); clear HB; obtain ⟨HB, BK128, GW128, GE128⟩ := n_; clear hb hbox hg))
 (try simp only [Act.put, List.setIfInBounds_toArray, List.set_cons_zero, List.set_cons_succ])
 go_cut [22] (fun v22 wc => ∃ (kq : Nat) (x22_1 : Bool), v22 = .bool x22_1 ∧ Aside0 (spec_TrainOk.j0 kq x22_1 a0_0 a0_1 l0_2 = some r) ∧ Aside0 (kq ≤ k) ∧ Aside0 (wc.heap[gb128]? = some (.cells #[.int .i64 a0_0, .int .i64 a0_1, (.slice A0_2 l0_2.length c0_2)] 29 (0, 0))) ∧ Aside0 (Below w.heap.size w wc))
 case first =>
  have H := HC2.out; clear HC2
  obtain ⟨t129, A40, H⟩ := Option.bind_eq_some_iff.mp H
  have A4 := aM A40
  clear A40
  by_cases c5 : t129 = true
  · subst c5
    rw [if_pos rfl] at H
    obtain ⟨t130, A60, H⟩ := Option.bind_eq_some_iff.mp H
    have A6 := aM A60
    clear A60
    by_cases c7 : t130 = true
    · subst c7
      rw [if_pos rfl] at H
      have H' := aM H
      clear H
      obtain ⟨hcz8_0, hcz8_1, hcz8_2, hfz8_0, hfz8_1, hfz8_2⟩ := nK3 BK128.out
      go_wp2_with (first | ((with_reducible refine gate_callee (f := 45) rfl ?_); refine goesL_ (some 9) rfl rfl Try.func45 (by kernel_rfl) rfl #[.int .i64 a0_0, .int .i64 1, .int .i64 60] rfl (by (try simp only [List.map_toArray, List.map_cons, List.map_nil]); first | done | rfl | (simp only [List.length_drop, List.length_take]; rfl)) ?_; (with_reducible refine (spec_l01In.calls a0_0 1 60 true _ A4.out).mono ?_); rintro e w' ⟨rfl, ⟨nd, rfl⟩⟩; refine ⟨_, rfl, ?_⟩) | (go_at_call 45; (with_reducible refine (spec_l01In.calls a0_1 1 11 true _ A6.out).mono ?_); rintro e w' ⟨rfl, ⟨nd, rfl⟩⟩))
      go_meet
      case rel => exact ⟨_, (decide ((l0_2.length : Int) > 200)), nS, H', ⟨by first | omega | exact Nat.le_refl _⟩, ⟨by refine nE ?_; exact BK128.out⟩, ⟨nH1 HB.out GE128.out⟩⟩
    · replace c7 := Bool.eq_false_iff.mpr c7
      subst c7
      rw [if_neg nN] at H
      have H' := aM H
      clear H
      obtain ⟨hcz9_0, hcz9_1, hcz9_2, hfz9_0, hfz9_1, hfz9_2⟩ := nK3 BK128.out
      go_wp2_with (first | ((with_reducible refine gate_callee (f := 45) rfl ?_); refine goesL_ (some 9) rfl rfl Try.func45 (by kernel_rfl) rfl #[.int .i64 a0_0, .int .i64 1, .int .i64 60] rfl (by (try simp only [List.map_toArray, List.map_cons, List.map_nil]); first | done | rfl | (simp only [List.length_drop, List.length_take]; rfl)) ?_; (with_reducible refine (spec_l01In.calls a0_0 1 60 true _ A4.out).mono ?_); rintro e w' ⟨rfl, ⟨nd, rfl⟩⟩; refine ⟨_, rfl, ?_⟩) | (go_at_call 45; (with_reducible refine (spec_l01In.calls a0_1 1 11 false _ A6.out).mono ?_); rintro e w' ⟨rfl, ⟨nd, rfl⟩⟩))
      go_meet
      case rel => exact ⟨_, (true), nS, H', ⟨by first | omega | exact Nat.le_refl _⟩, ⟨by refine nE ?_; exact BK128.out⟩, ⟨nH1 HB.out GE128.out⟩⟩
  · replace c5 := Bool.eq_false_iff.mpr c5
    subst c5
    rw [if_neg nN] at H
    have H' := aM H
    clear H
    obtain ⟨hcz10_0, hcz10_1, hcz10_2, hfz10_0, hfz10_1, hfz10_2⟩ := nK3 BK128.out
    go_wp2_with (first | ((with_reducible refine gate_callee (f := 45) rfl ?_); refine goesL_ (some 9) rfl rfl Try.func45 (by kernel_rfl) rfl #[.int .i64 a0_0, .int .i64 1, .int .i64 60] rfl (by (try simp only [List.map_toArray, List.map_cons, List.map_nil]); first | done | rfl | (simp only [List.length_drop, List.length_take]; rfl)) ?_; (with_reducible refine (spec_l01In.calls a0_0 1 60 false _ A4.out).mono ?_); rintro e w' ⟨rfl, ⟨nd, rfl⟩⟩; refine ⟨_, rfl, ?_⟩))
    go_meet
    case rel => exact ⟨_, (true), nS, H', ⟨by first | omega | exact Nat.le_refl _⟩, ⟨by refine nE ?_; exact BK128.out⟩, ⟨nH1 HB.out GE128.out⟩⟩
 case rest =>
  clear HC2; try clear c1; try clear p2; try clear c4; try clear c5; try clear c7; try clear hcz10_0; try clear hcz10_1; try clear hcz10_2; try clear hcz8_0; try clear hcz8_1; try clear hcz8_2; try clear hcz9_0; try clear hcz9_1; try clear hcz9_2; try clear hfz10_0; try clear hfz10_1; try clear hfz10_2; try clear hfz8_0; try clear hfz8_1; try clear hfz8_2; try clear hfz9_0; try clear hfz9_1; try clear hfz9_2
  obtain ⟨kq, x22_1, rfl, HA, HJ1, BK128, HB⟩ := hcut
  cases kq with
  | zero => exact absurd HA.out (by simp [spec_TrainOk.j0])
  | succ kj1 =>
   have H := HA.out; clear HA
   simp only [spec_TrainOk.j0] at H
   by_cases c11 : x22_1 = true
   · subst c11
     rw [if_pos rfl] at H; obtain rfl := Option.some.inj H; go_wp2; go_ret
     exact ⟨by first | rfl | (simp [errW_none, errW_some] <;> rfl) | (simp [*, errW_none, errW_some] <;> first | rfl | (simp [wrap64]; done)), nH1 HB.out GE128.out⟩
   · replace c11 := Bool.eq_false_iff.mpr c11
     subst c11
     rw [if_neg nN] at H
     have H' := aM H
     clear H; go_wp2
     go_loopg [3] kj1 (fun kq v3 w' => ∃ (x3_2 : Int), v3 = .int .i64 x3_2 ∧ Aside0 (spec_TrainOk.l0 kq x3_2 a0_0 a0_1 l0_2 = some r) ∧ Aside0 (kq ≤ kj1) ∧ Aside0 (w'.heap[gb128]? = some (.cells #[.int .i64 a0_0, .int .i64 a0_1, (.slice A0_2 l0_2.length c0_2)] 29 (0, 0))) ∧ Aside0 (Below w.heap.size w w'))
     case atStart => exact ⟨(0), nS, H', ⟨Nat.le_refl _⟩, ⟨by refine nE ?_; exact BK128.out⟩, ⟨nH1 HB.out GE128.out⟩⟩
     case round =>
      clear H'
      try clear c1; try clear p2; try clear c4; try clear c5; try clear p6; try clear c7; try clear c11; try clear hcz10_0; try clear hcz10_1; try clear hcz10_2; try clear hcz8_0; try clear hcz8_1; try clear hcz8_2; try clear hcz9_0; try clear hcz9_1; try clear hcz9_2; try clear hfz10_0; try clear hfz10_1; try clear hfz10_2; try clear hfz8_0; try clear hfz8_1; try clear hfz8_2; try clear hfz9_0; try clear hfz9_1; try clear hfz9_2; try clear p2
      obtain ⟨x3_2, rfl, HA, HK2, BK128, HB⟩ := hrel
      cases gk with
      | zero => exact absurd HA.out (by simp [spec_TrainOk.l0])
      | succ k2 =>
       have H := HA.out; clear HA
       simp only [spec_TrainOk.l0] at H
       by_cases c12 : x3_2 < (l0_2.length : Int)
       · rw [if_pos c12] at H
         have c12b0 : decide (x3_2 < (l0_2.length : Int)) = true := decide_eq_true c12
         clear c12
         by_cases c13 : 0 ≤ x3_2
         rotate_left
         · (rw [if_neg c13] at H; exact absurd H (by simp))
         rw [if_pos c13] at H
         have c13b0 : decide (0 ≤ x3_2) = true := decide_eq_true c13
         clear c13
         have HC14 := aM H
         clear H
         obtain ⟨hcz15_0, hcz15_1, hcz15_2, hfz15_0, hfz15_1, hfz15_2⟩ := nK3 BK128.out
         have p131 : 0 ≤ (x3_2 : Int) := of_decide_eq_true nQ
         have q131 : x3_2 < (l0_2.length : Int) := of_decide_eq_true nQ
         obtain ⟨ad131, e131, hx131_0, hx131_1, hx131_2, hx131_3⟩ := at_T66 HR0_2.out x3_2 p131 q131
         cases e131
         replace hx131_0 := (HB.out.cell (World.block_lt_of_cell? w _ hx131_0)).trans hx131_0
         replace hx131_1 := (HB.out.cell (World.block_lt_of_cell? w _ hx131_1)).trans hx131_1
         replace hx131_2 := (HB.out.cell (World.block_lt_of_cell? w _ hx131_2)).trans hx131_2
         replace hx131_3 := (HB.out.cell (World.block_lt_of_cell? w _ hx131_3)).trans hx131_3
         replace p131 := eq_true p131; replace q131 := eq_true q131
         go_upto_region 7 with (first | ((with_reducible refine gate_dst (N := 4) rfl ?_); (try (refine gate_guard (by rfl) ?_; dsimp only)); refine box_event ?hg (N := 4) ?hd (cs := #[.int .i64 0, .int .i64 0, .int .i64 0, .int .i64 0]) (t := 66) ?hr ?_; (case hd => rfl); (case hg => rfl); (case hr => first | (go_simp; done) | (go_simp; rfl)); intro gb132 hg w16 hbox hb; have n_ := aA (nBB BK128.out hb) <| aA (below_step (nH1 HB.out GE128.out) hb) <| aA (hbox) <| aA (bS hg (nH1 HB.out GE128.out)) <| aA (bS hg (nH1 HB.out GE128.out)) <| aA (nBL BK128.out hg) <| aM (by rw [hg]; exact Nat.ne_of_gt (blk_lt (g := gb128) (o := .cells #[.int .i64 a0_0, .int .i64 a0_1, .slice (some ad131) l0_2.length c0_2] 29 (0, 0)) (nB BK128.out)) : gb132 ≠ gb128); clear BK128 HB; obtain ⟨BK128, HB, BK132, GW132, GE132, NB128_132, NB132_128⟩ := n_; clear hb hbox hg; have hnb17 := NB132_128.out; have hnc17 := NB128_132.out; obtain ⟨hcz18_0, hcz18_1, hcz18_2, hcz18_3, hfz18_0, hfz18_1, hfz18_2, hfz18_3⟩ := nK4 BK132.out))
         (try simp only [Act.put, List.setIfInBounds_toArray, List.set_cons_zero, List.set_cons_succ])
         go_cut [79] (fun v79 wc => ∃ (kq : Nat) (x79_13 : Bool), v79 = .bool x79_13 ∧ Aside0 (spec_TrainOk.j2 kq x3_2 x79_13 a0_0 a0_1 l0_2 ((rd_T66 l0_2 x3_2).f0) ((rd_T66 l0_2 x3_2).f1) ((rd_T66 l0_2 x3_2).f2) ((rd_T66 l0_2 x3_2).f3) = some r) ∧ Aside0 (kq ≤ k2) ∧ Aside0 (wc.heap[gb128]? = some (.cells #[.int .i64 a0_0, .int .i64 a0_1, (.slice (some ad131) l0_2.length c0_2)] 29 (0, 0))) ∧ Aside0 (wc.heap[gb132]? = some (.cells #[.int .i64 ((rd_T66 l0_2 x3_2).f0), .int .i64 ((rd_T66 l0_2 x3_2).f1), .int .i64 ((rd_T66 l0_2 x3_2).f2), .int .i64 ((rd_T66 l0_2 x3_2).f3)] 66 (0, 0))) ∧ Aside0 (Below w.heap.size w wc))
         case first =>
          have H := HC14.out; clear HC14
          by_cases c19 : ((rd_T66 l0_2 x3_2).f0) ≤ 0
          · rw [if_pos c19] at H
            have c19b0 : decide (((rd_T66 l0_2 x3_2).f0) ≤ 0) = true := decide_eq_true c19
            clear c19
            (first | rw [c19b0] | (simp only [i64_w, i32_w]; rw [c19b0]) | skip)
            have H' := aM H
            clear H
            try go_wp2
            have n0_ : Aside0 (((((w16.setCell ⟨gb132, 0, none⟩ (.int .i64 ((rd_T66 l0_2 x3_2).f0))).setCell ⟨gb132, 1, none⟩ (.int .i64 ((rd_T66 l0_2 x3_2).f1))).setCell ⟨gb132, 2, none⟩ (.int .i64 ((rd_T66 l0_2 x3_2).f2))).setCell ⟨gb132, 3, none⟩ (.int .i64 ((rd_T66 l0_2 x3_2).f3))).heap[gb128]? = some (.cells #[.int .i64 a0_0, .int .i64 a0_1, .slice (some ad131) l0_2.length c0_2] 29 (0, 0))) := ⟨by refine nE ?_; refine blk_far ?_ NB128_132.out _; refine nE ?_; refine blk_far ?_ NB128_132.out _; refine nE ?_; refine blk_far ?_ NB128_132.out _; refine nE ?_; refine blk_far ?_ NB128_132.out _; refine nE ?_; exact BK128.out⟩
            have n1_ : Aside0 (((((w16.setCell ⟨gb132, 0, none⟩ (.int .i64 ((rd_T66 l0_2 x3_2).f0))).setCell ⟨gb132, 1, none⟩ (.int .i64 ((rd_T66 l0_2 x3_2).f1))).setCell ⟨gb132, 2, none⟩ (.int .i64 ((rd_T66 l0_2 x3_2).f2))).setCell ⟨gb132, 3, none⟩ (.int .i64 ((rd_T66 l0_2 x3_2).f3))).heap[gb132]? = some (.cells #[.int .i64 ((rd_T66 l0_2 x3_2).f0), .int .i64 ((rd_T66 l0_2 x3_2).f1), .int .i64 ((rd_T66 l0_2 x3_2).f2), .int .i64 ((rd_T66 l0_2 x3_2).f3)] 66 (0, 0))) := ⟨by refine nE ?_; refine blk_put (cs := #[.int .i64 ((rd_T66 l0_2 x3_2).f0), .int .i64 ((rd_T66 l0_2 x3_2).f1), .int .i64 ((rd_T66 l0_2 x3_2).f2), .int .i64 0]) ?_ 3 _ rfl; refine nE ?_; refine blk_put (cs := #[.int .i64 ((rd_T66 l0_2 x3_2).f0), .int .i64 ((rd_T66 l0_2 x3_2).f1), .int .i64 0, .int .i64 0]) ?_ 2 _ rfl; refine nE ?_; refine blk_put (cs := #[.int .i64 ((rd_T66 l0_2 x3_2).f0), .int .i64 0, .int .i64 0, .int .i64 0]) ?_ 1 _ rfl; refine nE ?_; refine blk_put (cs := #[.int .i64 0, .int .i64 0, .int .i64 0, .int .i64 0]) ?_ 0 _ rfl; refine nE ?_; exact BK132.out⟩
            have n2_ : Aside0 (Below w.heap.size w ((((w16.setCell ⟨gb132, 0, none⟩ (.int .i64 ((rd_T66 l0_2 x3_2).f0))).setCell ⟨gb132, 1, none⟩ (.int .i64 ((rd_T66 l0_2 x3_2).f1))).setCell ⟨gb132, 2, none⟩ (.int .i64 ((rd_T66 l0_2 x3_2).f2))).setCell ⟨gb132, 3, none⟩ (.int .i64 ((rd_T66 l0_2 x3_2).f3)))) := ⟨nH2 HB.out GE128.out GE132.out⟩
            (try clear BK128); (try clear BK132); (try clear HB)
            generalize ((((w16.setCell ⟨gb132, 0, none⟩ (.int .i64 ((rd_T66 l0_2 x3_2).f0))).setCell ⟨gb132, 1, none⟩ (.int .i64 ((rd_T66 l0_2 x3_2).f1))).setCell ⟨gb132, 2, none⟩ (.int .i64 ((rd_T66 l0_2 x3_2).f2))).setCell ⟨gb132, 3, none⟩ (.int .i64 ((rd_T66 l0_2 x3_2).f3))) = w20 at n0_ n1_ n2_ ⊢
            have BK128 := n0_; have BK132 := n1_; have HB := n2_; clear n0_ n1_ n2_
            have n_ := aA (blk_drew BK128.out) <| aA (blk_drew BK132.out) <| aM (below_drew1 HB.out); clear BK128 BK132 HB; obtain ⟨BK128, BK132, HB⟩ := n_
            refine start_ (n := 45) (S := fun w' => w'.cell? ⟨gb132, 0, none⟩ = some (.int .i64 ((rd_T66 l0_2 x3_2).f0)) ∧ w'.cell? ⟨gb132, 1, none⟩ = some (.int .i64 ((rd_T66 l0_2 x3_2).f1)) ∧ w'.cell? ⟨gb132, 2, none⟩ = some (.int .i64 ((rd_T66 l0_2 x3_2).f2)) ∧ w'.cell? ⟨gb132, 3, none⟩ = some (.int .i64 ((rd_T66 l0_2 x3_2).f3))) (ds := []) #[F,F,F,F,F,F,F,F,F,F,F,F,F,F,F,F,F,F,F,F,F,F,F,F,F,F,F,F,F,F,F,F,F,F,F,F,F,F,F,F,F,F,F,F,F] (by kernel_rfl) rfl rfl ⟨(blk_cell BK132.out 0).trans rfl, (blk_cell BK132.out 1).trans rfl, (blk_cell BK132.out 2).trans rfl, (blk_cell BK132.out 3).trans rfl⟩ (fun hHeld => ?_); refine with_tabW spec_TrainOk.tab7 spec_TrainOk.bits7 (fun HT_ HW_ => ?_)
            generalize w20.drew = w21 at BK128 BK132 HB hHeld ⊢
            refine pU 0 (some 35) #[T,F,F,F,F,F,F,F,F,F,F,F,F,F,F,F,F,F,F,F,F,F,F,F,F,F,F,F,F,F,F,F,F,F,F,F,F,F,F,F,F,F,F,F,F] rfl rfl HT_.out ?_
            refine tU4 1 (some 36) #[T,T,F,F,F,F,F,F,F,F,F,F,F,F,F,F,F,F,F,F,F,F,F,F,F,F,F,F,F,F,F,F,F,F,F,F,F,F,F,F,F,F,F,F,F] rfl rfl HT_.out HW_.out hHeld ?_
            refine pU 2 (some 37) #[T,T,T,F,F,F,F,F,F,F,F,F,F,F,F,F,F,F,F,F,F,F,F,F,F,F,F,F,F,F,F,F,F,F,F,F,F,F,F,F,F,F,F,F,F] rfl rfl HT_.out ?_
            refine pU 3 (some 38) #[T,T,T,T,F,F,F,F,F,F,F,F,F,F,F,F,F,F,F,F,F,F,F,F,F,F,F,F,F,F,F,F,F,F,F,F,F,F,F,F,F,F,F,F,F] rfl rfl HT_.out ?_
            refine pV 4 (some 39) #[T,T,T,T,T,F,F,F,F,F,F,F,F,F,F,F,F,F,F,F,F,F,F,F,F,F,F,F,F,F,F,F,F,F,F,F,F,F,F,F,F,F,F,F,F] rfl rfl HT_.out ?_
            refine pV 5 (some 40) #[T,T,T,T,T,T,F,F,F,F,F,F,F,F,F,F,F,F,F,F,F,F,F,F,F,F,F,F,F,F,F,F,F,F,F,F,F,F,F,F,F,F,F,F,F] rfl rfl HT_.out ?_
            refine pV 6 (some 41) #[T,T,T,T,T,T,T,F,F,F,F,F,F,F,F,F,F,F,F,F,F,F,F,F,F,F,F,F,F,F,F,F,F,F,F,F,F,F,F,F,F,F,F,F,F] rfl rfl HT_.out ?_
            refine pV 7 (some 42) #[T,T,T,T,T,T,T,T,F,F,F,F,F,F,F,F,F,F,F,F,F,F,F,F,F,F,F,F,F,F,F,F,F,F,F,F,F,F,F,F,F,F,F,F,F] rfl rfl HT_.out ?_
            refine pV 8 (some 43) #[T,T,T,T,T,T,T,T,T,F,F,F,F,F,F,F,F,F,F,F,F,F,F,F,F,F,F,F,F,F,F,F,F,F,F,F,F,F,F,F,F,F,F,F,F] rfl rfl HT_.out ?_
            refine pV 9 (some 44) #[T,T,T,T,T,T,T,T,T,T,F,F,F,F,F,F,F,F,F,F,F,F,F,F,F,F,F,F,F,F,F,F,F,F,F,F,F,F,F,F,F,F,F,F,F] rfl rfl HT_.out ?_
            refine pV 10 (some 45) #[T,T,T,T,T,T,T,T,T,T,T,F,F,F,F,F,F,F,F,F,F,F,F,F,F,F,F,F,F,F,F,F,F,F,F,F,F,F,F,F,F,F,F,F,F] rfl rfl HT_.out ?_
            refine pV 11 (some 46) #[T,T,T,T,T,T,T,T,T,T,T,T,F,F,F,F,F,F,F,F,F,F,F,F,F,F,F,F,F,F,F,F,F,F,F,F,F,F,F,F,F,F,F,F,F] rfl rfl HT_.out ?_
            refine pV 12 (some 47) #[T,T,T,T,T,T,T,T,T,T,T,T,T,F,F,F,F,F,F,F,F,F,F,F,F,F,F,F,F,F,F,F,F,F,F,F,F,F,F,F,F,F,F,F,F] rfl rfl HT_.out ?_
            refine pV 13 (some 48) #[T,T,T,T,T,T,T,T,T,T,T,T,T,T,F,F,F,F,F,F,F,F,F,F,F,F,F,F,F,F,F,F,F,F,F,F,F,F,F,F,F,F,F,F,F] rfl rfl HT_.out ?_
            refine pV 14 (some 49) #[T,T,T,T,T,T,T,T,T,T,T,T,T,T,T,F,F,F,F,F,F,F,F,F,F,F,F,F,F,F,F,F,F,F,F,F,F,F,F,F,F,F,F,F,F] rfl rfl HT_.out ?_
            refine pV 15 (some 50) #[T,T,T,T,T,T,T,T,T,T,T,T,T,T,T,T,F,F,F,F,F,F,F,F,F,F,F,F,F,F,F,F,F,F,F,F,F,F,F,F,F,F,F,F,F] rfl rfl HT_.out ?_
            refine pV 16 (some 51) #[T,T,T,T,T,T,T,T,T,T,T,T,T,T,T,T,T,F,F,F,F,F,F,F,F,F,F,F,F,F,F,F,F,F,F,F,F,F,F,F,F,F,F,F,F] rfl rfl HT_.out ?_
            refine pV 17 (some 52) #[T,T,T,T,T,T,T,T,T,T,T,T,T,T,T,T,T,T,F,F,F,F,F,F,F,F,F,F,F,F,F,F,F,F,F,F,F,F,F,F,F,F,F,F,F] rfl rfl HT_.out ?_
            refine pU 18 (some 53) #[T,T,T,T,T,T,T,T,T,T,T,T,T,T,T,T,T,T,T,F,F,F,F,F,F,F,F,F,F,F,F,F,F,F,F,F,F,F,F,F,F,F,F,F,F] rfl rfl HT_.out ?_
            refine pU 19 (some 54) #[T,T,T,T,T,T,T,T,T,T,T,T,T,T,T,T,T,T,T,T,F,F,F,F,F,F,F,F,F,F,F,F,F,F,F,F,F,F,F,F,F,F,F,F,F] rfl rfl HT_.out ?_
            refine pV 20 (some 55) #[T,T,T,T,T,T,T,T,T,T,T,T,T,T,T,T,T,T,T,T,T,F,F,F,F,F,F,F,F,F,F,F,F,F,F,F,F,F,F,F,F,F,F,F,F] rfl rfl HT_.out ?_
            refine pV 21 (some 56) #[T,T,T,T,T,T,T,T,T,T,T,T,T,T,T,T,T,T,T,T,T,T,F,F,F,F,F,F,F,F,F,F,F,F,F,F,F,F,F,F,F,F,F,F,F] rfl rfl HT_.out ?_
            refine pV 22 (some 57) #[T,T,T,T,T,T,T,T,T,T,T,T,T,T,T,T,T,T,T,T,T,T,T,F,F,F,F,F,F,F,F,F,F,F,F,F,F,F,F,F,F,F,F,F,F] rfl rfl HT_.out ?_
            refine pV 23 (some 58) #[T,T,T,T,T,T,T,T,T,T,T,T,T,T,T,T,T,T,T,T,T,T,T,T,F,F,F,F,F,F,F,F,F,F,F,F,F,F,F,F,F,F,F,F,F] rfl rfl HT_.out ?_
            refine pV 24 (some 59) #[T,T,T,T,T,T,T,T,T,T,T,T,T,T,T,T,T,T,T,T,T,T,T,T,T,F,F,F,F,F,F,F,F,F,F,F,F,F,F,F,F,F,F,F,F] rfl rfl HT_.out ?_
            refine pV 25 (some 60) #[T,T,T,T,T,T,T,T,T,T,T,T,T,T,T,T,T,T,T,T,T,T,T,T,T,T,F,F,F,F,F,F,F,F,F,F,F,F,F,F,F,F,F,F,F] rfl rfl HT_.out ?_
            refine pV 26 (some 61) #[T,T,T,T,T,T,T,T,T,T,T,T,T,T,T,T,T,T,T,T,T,T,T,T,T,T,T,F,F,F,F,F,F,F,F,F,F,F,F,F,F,F,F,F,F] rfl rfl HT_.out ?_
            refine pU 27 (some 62) #[T,T,T,T,T,T,T,T,T,T,T,T,T,T,T,T,T,T,T,T,T,T,T,T,T,T,T,T,F,F,F,F,F,F,F,F,F,F,F,F,F,F,F,F,F] rfl rfl HT_.out ?_
            refine pU 28 (some 63) #[T,T,T,T,T,T,T,T,T,T,T,T,T,T,T,T,T,T,T,T,T,T,T,T,T,T,T,T,T,F,F,F,F,F,F,F,F,F,F,F,F,F,F,F,F] rfl rfl HT_.out ?_
            refine pV 29 (some 64) #[T,T,T,T,T,T,T,T,T,T,T,T,T,T,T,T,T,T,T,T,T,T,T,T,T,T,T,T,T,T,F,F,F,F,F,F,F,F,F,F,F,F,F,F,F] rfl rfl HT_.out ?_
            refine pV 30 (some 65) #[T,T,T,T,T,T,T,T,T,T,T,T,T,T,T,T,T,T,T,T,T,T,T,T,T,T,T,T,T,T,T,F,F,F,F,F,F,F,F,F,F,F,F,F,F] rfl rfl HT_.out ?_
            refine pV 31 (some 66) #[T,T,T,T,T,T,T,T,T,T,T,T,T,T,T,T,T,T,T,T,T,T,T,T,T,T,T,T,T,T,T,T,F,F,F,F,F,F,F,F,F,F,F,F,F] rfl rfl HT_.out ?_
            refine pV 32 (some 67) #[T,T,T,T,T,T,T,T,T,T,T,T,T,T,T,T,T,T,T,T,T,T,T,T,T,T,T,T,T,T,T,T,T,F,F,F,F,F,F,F,F,F,F,F,F] rfl rfl HT_.out ?_
            refine pV 33 (some 68) #[T,T,T,T,T,T,T,T,T,T,T,T,T,T,T,T,T,T,T,T,T,T,T,T,T,T,T,T,T,T,T,T,T,T,F,F,F,F,F,F,F,F,F,F,F] rfl rfl HT_.out ?_
            refine pV 34 (some 69) #[T,T,T,T,T,T,T,T,T,T,T,T,T,T,T,T,T,T,T,T,T,T,T,T,T,T,T,T,T,T,T,T,T,T,T,F,F,F,F,F,F,F,F,F,F] rfl rfl HT_.out ?_
            refine pU 35 (some 70) #[T,T,T,T,T,T,T,T,T,T,T,T,T,T,T,T,T,T,T,T,T,T,T,T,T,T,T,T,T,T,T,T,T,T,T,T,F,F,F,F,F,F,F,F,F] rfl rfl HT_.out ?_
            refine pU 36 (some 71) #[T,T,T,T,T,T,T,T,T,T,T,T,T,T,T,T,T,T,T,T,T,T,T,T,T,T,T,T,T,T,T,T,T,T,T,T,T,F,F,F,F,F,F,F,F] rfl rfl HT_.out ?_
            refine pV 37 (some 72) #[T,T,T,T,T,T,T,T,T,T,T,T,T,T,T,T,T,T,T,T,T,T,T,T,T,T,T,T,T,T,T,T,T,T,T,T,T,T,F,F,F,F,F,F,F] rfl rfl HT_.out ?_
            refine pV 38 (some 73) #[T,T,T,T,T,T,T,T,T,T,T,T,T,T,T,T,T,T,T,T,T,T,T,T,T,T,T,T,T,T,T,T,T,T,T,T,T,T,T,F,F,F,F,F,F] rfl rfl HT_.out ?_
            refine pV 39 (some 74) #[T,T,T,T,T,T,T,T,T,T,T,T,T,T,T,T,T,T,T,T,T,T,T,T,T,T,T,T,T,T,T,T,T,T,T,T,T,T,T,T,F,F,F,F,F] rfl rfl HT_.out ?_
            refine pV 40 (some 75) #[T,T,T,T,T,T,T,T,T,T,T,T,T,T,T,T,T,T,T,T,T,T,T,T,T,T,T,T,T,T,T,T,T,T,T,T,T,T,T,T,T,F,F,F,F] rfl rfl HT_.out ?_
            refine pV 41 (some 76) #[T,T,T,T,T,T,T,T,T,T,T,T,T,T,T,T,T,T,T,T,T,T,T,T,T,T,T,T,T,T,T,T,T,T,T,T,T,T,T,T,T,T,F,F,F] rfl rfl HT_.out ?_
            refine pV 42 (some 77) #[T,T,T,T,T,T,T,T,T,T,T,T,T,T,T,T,T,T,T,T,T,T,T,T,T,T,T,T,T,T,T,T,T,T,T,T,T,T,T,T,T,T,T,F,F] rfl rfl HT_.out ?_
            refine pV 43 (some 78) #[T,T,T,T,T,T,T,T,T,T,T,T,T,T,T,T,T,T,T,T,T,T,T,T,T,T,T,T,T,T,T,T,T,T,T,T,T,T,T,T,T,T,T,T,F] rfl rfl HT_.out ?_
            refine pU 44 (some 79) #[T,T,T,T,T,T,T,T,T,T,T,T,T,T,T,T,T,T,T,T,T,T,T,T,T,T,T,T,T,T,T,T,T,T,T,T,T,T,T,T,T,T,T,T,T] rfl rfl HT_.out ?_
            refine done_ (done_of HT_.out (by kernel_rfl)) ?_
            try go_wp2
            go_meet
            case rel => exact ⟨_, (true), nS, H', ⟨by have := HJ1.out; have := HK2.out; first | omega | exact Nat.le_refl _⟩, ⟨by refine nE ?_; exact BK128.out⟩, ⟨by refine nE ?_; exact BK132.out⟩, ⟨nH2 HB.out GE128.out GE132.out⟩⟩
          · rw [if_neg c19] at H
            have c19b0 : decide (((rd_T66 l0_2 x3_2).f0) ≤ 0) = false := decide_eq_false c19
            clear c19
            (first | rw [c19b0] | (simp only [i64_w, i32_w]; rw [c19b0]) | skip)
            by_cases c22 : x3_2 > 0
            · rw [if_pos c22] at H
              have c22b0 : decide (0 < x3_2) = true := decide_eq_true c22
              clear c22
              obtain ⟨ji23, hji23⟩ : ∃ j_ : Int, (wrap64 (x3_2 - 1)) = j_ := ⟨_, rfl⟩
              replace H : (if 0 ≤ (ji23) then (if (ji23) < (l0_2.length : Int) then (if ((rd_T66 l0_2 (ji23)).f0) ≥ ((rd_T66 l0_2 x3_2).f0) then (spec_TrainOk.j2 k2 x3_2 true a0_0 a0_1 l0_2 ((rd_T66 l0_2 x3_2).f0) ((rd_T66 l0_2 x3_2).f1) ((rd_T66 l0_2 x3_2).f2) ((rd_T66 l0_2 x3_2).f3)) else ((spec_l01In.f ((rd_T66 l0_2 x3_2).f1) 0 (wrap64 (a0_0 - 1))).bind fun t134 => (if t134 = true then ((spec_l01In.f ((rd_T66 l0_2 x3_2).f3) 1 a0_1).bind fun t135 => (if t135 = true then ((spec_l01In.f ((rd_T66 l0_2 x3_2).f2) 0 (wrap64 (((rd_T66 l0_2 x3_2).f3) - 1))).bind fun t136 => (spec_TrainOk.j2 k2 x3_2 (!t136) a0_0 a0_1 l0_2 ((rd_T66 l0_2 x3_2).f0) ((rd_T66 l0_2 x3_2).f1) ((rd_T66 l0_2 x3_2).f2) ((rd_T66 l0_2 x3_2).f3))) else (spec_TrainOk.j2 k2 x3_2 true a0_0 a0_1 l0_2 ((rd_T66 l0_2 x3_2).f0) ((rd_T66 l0_2 x3_2).f1) ((rd_T66 l0_2 x3_2).f2) ((rd_T66 l0_2 x3_2).f3)))) else (spec_TrainOk.j2 k2 x3_2 true a0_0 a0_1 l0_2 ((rd_T66 l0_2 x3_2).f0) ((rd_T66 l0_2 x3_2).f1) ((rd_T66 l0_2 x3_2).f2) ((rd_T66 l0_2 x3_2).f3))))) else (none)) else (none)) = some r := by first | (rw [hji23] at H; exact H) | (simp only [hji23] at H ⊢; exact H)
              have hji23w : (IntKind.i64.wrap (x3_2 - 1)) = ji23 := (i64_w _).trans hji23
              by_cases c24 : 0 ≤ (ji23)
              rotate_left
              · (rw [if_neg c24] at H; exact absurd H (by simp))
              rw [if_pos c24] at H
              have c24b0 : decide (0 ≤ (ji23)) = true := decide_eq_true c24
              clear c24
              by_cases c25 : (ji23) < (l0_2.length : Int)
              rotate_left
              · (rw [if_neg c25] at H; exact absurd H (by simp))
              rw [if_pos c25] at H
              have c25b0 : decide ((ji23) < (l0_2.length : Int)) = true := decide_eq_true c25
              clear c25
              by_cases c26 : ((rd_T66 l0_2 (ji23)).f0) ≥ ((rd_T66 l0_2 x3_2).f0)
              · rw [if_pos c26] at H
                have c26b0 : decide (((rd_T66 l0_2 x3_2).f0) ≤ ((rd_T66 l0_2 (ji23)).f0)) = true := decide_eq_true c26
                clear c26
                have H' := aM H
                clear H
                try go_wp2
                have n0_ : Aside0 (((((w16.setCell ⟨gb132, 0, none⟩ (.int .i64 ((rd_T66 l0_2 x3_2).f0))).setCell ⟨gb132, 1, none⟩ (.int .i64 ((rd_T66 l0_2 x3_2).f1))).setCell ⟨gb132, 2, none⟩ (.int .i64 ((rd_T66 l0_2 x3_2).f2))).setCell ⟨gb132, 3, none⟩ (.int .i64 ((rd_T66 l0_2 x3_2).f3))).heap[gb128]? = some (.cells #[.int .i64 a0_0, .int .i64 a0_1, .slice (some ad131) l0_2.length c0_2] 29 (0, 0))) := ⟨by refine nE ?_; refine blk_far ?_ NB128_132.out _; refine nE ?_; refine blk_far ?_ NB128_132.out _; refine nE ?_; refine blk_far ?_ NB128_132.out _; refine nE ?_; refine blk_far ?_ NB128_132.out _; refine nE ?_; exact BK128.out⟩
                have n1_ : Aside0 (((((w16.setCell ⟨gb132, 0, none⟩ (.int .i64 ((rd_T66 l0_2 x3_2).f0))).setCell ⟨gb132, 1, none⟩ (.int .i64 ((rd_T66 l0_2 x3_2).f1))).setCell ⟨gb132, 2, none⟩ (.int .i64 ((rd_T66 l0_2 x3_2).f2))).setCell ⟨gb132, 3, none⟩ (.int .i64 ((rd_T66 l0_2 x3_2).f3))).heap[gb132]? = some (.cells #[.int .i64 ((rd_T66 l0_2 x3_2).f0), .int .i64 ((rd_T66 l0_2 x3_2).f1), .int .i64 ((rd_T66 l0_2 x3_2).f2), .int .i64 ((rd_T66 l0_2 x3_2).f3)] 66 (0, 0))) := ⟨by refine nE ?_; refine blk_put (cs := #[.int .i64 ((rd_T66 l0_2 x3_2).f0), .int .i64 ((rd_T66 l0_2 x3_2).f1), .int .i64 ((rd_T66 l0_2 x3_2).f2), .int .i64 0]) ?_ 3 _ rfl; refine nE ?_; refine blk_put (cs := #[.int .i64 ((rd_T66 l0_2 x3_2).f0), .int .i64 ((rd_T66 l0_2 x3_2).f1), .int .i64 0, .int .i64 0]) ?_ 2 _ rfl; refine nE ?_; refine blk_put (cs := #[.int .i64 ((rd_T66 l0_2 x3_2).f0), .int .i64 0, .int .i64 0, .int .i64 0]) ?_ 1 _ rfl; refine nE ?_; refine blk_put (cs := #[.int .i64 0, .int .i64 0, .int .i64 0, .int .i64 0]) ?_ 0 _ rfl; refine nE ?_; exact BK132.out⟩
                have n2_ : Aside0 (Below w.heap.size w ((((w16.setCell ⟨gb132, 0, none⟩ (.int .i64 ((rd_T66 l0_2 x3_2).f0))).setCell ⟨gb132, 1, none⟩ (.int .i64 ((rd_T66 l0_2 x3_2).f1))).setCell ⟨gb132, 2, none⟩ (.int .i64 ((rd_T66 l0_2 x3_2).f2))).setCell ⟨gb132, 3, none⟩ (.int .i64 ((rd_T66 l0_2 x3_2).f3)))) := ⟨nH2 HB.out GE128.out GE132.out⟩
                (try clear BK128); (try clear BK132); (try clear HB)
                generalize ((((w16.setCell ⟨gb132, 0, none⟩ (.int .i64 ((rd_T66 l0_2 x3_2).f0))).setCell ⟨gb132, 1, none⟩ (.int .i64 ((rd_T66 l0_2 x3_2).f1))).setCell ⟨gb132, 2, none⟩ (.int .i64 ((rd_T66 l0_2 x3_2).f2))).setCell ⟨gb132, 3, none⟩ (.int .i64 ((rd_T66 l0_2 x3_2).f3))) = w27 at n0_ n1_ n2_ ⊢
                have BK128 := n0_; have BK132 := n1_; have HB := n2_; clear n0_ n1_ n2_
                have n_ := aA (blk_drew BK128.out) <| aA (blk_drew BK132.out) <| aM (below_drew1 HB.out); clear BK128 BK132 HB; obtain ⟨BK128, BK132, HB⟩ := n_
                have p133 : 0 ≤ ((ji23) : Int) := of_decide_eq_true nQ
                have q133 : (ji23) < (l0_2.length : Int) := of_decide_eq_true nQ
                obtain ⟨ad133, e133, hx133_0, hx133_1, hx133_2, hx133_3⟩ := at_T66 HR0_2.out (ji23) p133 q133
                have hw133_3 := hx133_3; have hw133_2 := hx133_2; have hw133_1 := hx133_1; have hw133_0 := hx133_0
                obtain rfl : ad131 = ad133 := (by injection e133)
                replace hx133_0 := (HB.out.cell (World.block_lt_of_cell? w _ hx133_0)).trans hx133_0
                replace hx133_1 := (HB.out.cell (World.block_lt_of_cell? w _ hx133_1)).trans hx133_1
                replace hx133_2 := (HB.out.cell (World.block_lt_of_cell? w _ hx133_2)).trans hx133_2
                replace hx133_3 := (HB.out.cell (World.block_lt_of_cell? w _ hx133_3)).trans hx133_3
                replace p133 := eq_true p133; replace q133 := eq_true q133
                refine start_ (n := 45) (S := fun w' => w'.cell? ⟨gb132, 0, none⟩ = some (.int .i64 ((rd_T66 l0_2 x3_2).f0)) ∧ w'.cell? ⟨gb132, 1, none⟩ = some (.int .i64 ((rd_T66 l0_2 x3_2).f1)) ∧ w'.cell? ⟨gb132, 2, none⟩ = some (.int .i64 ((rd_T66 l0_2 x3_2).f2)) ∧ w'.cell? ⟨gb132, 3, none⟩ = some (.int .i64 ((rd_T66 l0_2 x3_2).f3)) ∧ w'.cell? ⟨gb128, 0, none⟩ = some (.int .i64 a0_0) ∧ w'.cell? ⟨gb128, 1, none⟩ = some (.int .i64 a0_1) ∧ w'.cell? ⟨gb128, 2, none⟩ = some (.slice (some ad131) l0_2.length c0_2) ∧ w'.cell? (ad131.add (((ji23)).toNat * 4)) = some (.int .i64 ((rd_T66 l0_2 (ji23)).f0)) ∧ w'.cell? ⟨(ad131.add (((ji23)).toNat * 4)).block, (ad131.add (((ji23)).toNat * 4)).off + 1, none⟩ = some (.int .i64 ((rd_T66 l0_2 (ji23)).f1)) ∧ w'.cell? ⟨(ad131.add (((ji23)).toNat * 4)).block, (ad131.add (((ji23)).toNat * 4)).off + 2, none⟩ = some (.int .i64 ((rd_T66 l0_2 (ji23)).f2)) ∧ w'.cell? ⟨(ad131.add (((ji23)).toNat * 4)).block, (ad131.add (((ji23)).toNat * 4)).off + 3, none⟩ = some (.int .i64 ((rd_T66 l0_2 (ji23)).f3))) (ds := []) #[F,F,F,F,F,F,F,F,F,F,F,F,F,F,F,F,F,F,F,F,F,F,F,F,F,F,F,F,F,F,F,F,F,F,F,F,F,F,F,F,F,F,F,F,F] (by kernel_rfl) rfl rfl ⟨(blk_cell BK132.out 0).trans rfl, (blk_cell BK132.out 1).trans rfl, (blk_cell BK132.out 2).trans rfl, (blk_cell BK132.out 3).trans rfl, (blk_cell BK128.out 0).trans rfl, (blk_cell BK128.out 1).trans rfl, (blk_cell BK128.out 2).trans rfl, (nC HB.out hw133_0 :), (nC HB.out hw133_1 :), (nC HB.out hw133_2 :), (nC HB.out hw133_3 :)⟩ (fun hHeld => ?_); refine with_tabW spec_TrainOk.tab7 spec_TrainOk.bits7 (fun HT_ HW_ => ?_)
                generalize w27.drew = w28 at BK128 BK132 HB hx133_0 hx133_1 hx133_2 hx133_3 hHeld ⊢
                refine pU 0 (some 35) #[T,F,F,F,F,F,F,F,F,F,F,F,F,F,F,F,F,F,F,F,F,F,F,F,F,F,F,F,F,F,F,F,F,F,F,F,F,F,F,F,F,F,F,F,F] rfl rfl HT_.out ?_
                refine tU11 1 (some 36) #[T,T,F,F,F,F,F,F,F,F,F,F,F,F,F,F,F,F,F,F,F,F,F,F,F,F,F,F,F,F,F,F,F,F,F,F,F,F,F,F,F,F,F,F,F] rfl rfl HT_.out HW_.out hHeld ?_
                refine pU 2 (some 37) #[T,T,T,F,F,F,F,F,F,F,F,F,F,F,F,F,F,F,F,F,F,F,F,F,F,F,F,F,F,F,F,F,F,F,F,F,F,F,F,F,F,F,F,F,F] rfl rfl HT_.out ?_
                refine pU 3 (some 38) #[T,T,T,T,F,F,F,F,F,F,F,F,F,F,F,F,F,F,F,F,F,F,F,F,F,F,F,F,F,F,F,F,F,F,F,F,F,F,F,F,F,F,F,F,F] rfl rfl HT_.out ?_
                refine pU 4 (some 39) #[T,T,T,T,T,F,F,F,F,F,F,F,F,F,F,F,F,F,F,F,F,F,F,F,F,F,F,F,F,F,F,F,F,F,F,F,F,F,F,F,F,F,F,F,F] rfl rfl HT_.out ?_
                refine pU 5 (some 40) #[T,T,T,T,T,T,F,F,F,F,F,F,F,F,F,F,F,F,F,F,F,F,F,F,F,F,F,F,F,F,F,F,F,F,F,F,F,F,F,F,F,F,F,F,F] rfl rfl HT_.out ?_
                refine pU 6 (some 41) #[T,T,T,T,T,T,T,F,F,F,F,F,F,F,F,F,F,F,F,F,F,F,F,F,F,F,F,F,F,F,F,F,F,F,F,F,F,F,F,F,F,F,F,F,F] rfl rfl HT_.out ?_
                refine pU 7 (some 42) #[T,T,T,T,T,T,T,T,F,F,F,F,F,F,F,F,F,F,F,F,F,F,F,F,F,F,F,F,F,F,F,F,F,F,F,F,F,F,F,F,F,F,F,F,F] rfl rfl HT_.out ?_
                refine pU 9 (some 44) #[T,T,T,T,T,T,T,T,F,T,F,F,F,F,F,F,F,F,F,F,F,F,F,F,F,F,F,F,F,F,F,F,F,F,F,F,F,F,F,F,F,F,F,F,F] rfl rfl HT_.out ?_
                refine pU 10 (some 45) #[T,T,T,T,T,T,T,T,F,T,T,F,F,F,F,F,F,F,F,F,F,F,F,F,F,F,F,F,F,F,F,F,F,F,F,F,F,F,F,F,F,F,F,F,F] rfl rfl HT_.out ?_
                refine pU 14 (some 49) #[T,T,T,T,T,T,T,T,F,T,T,F,F,F,T,F,F,F,F,F,F,F,F,F,F,F,F,F,F,F,F,F,F,F,F,F,F,F,F,F,F,F,F,F,F] rfl rfl HT_.out ?_
                refine tU11 8 (some 43) #[T,T,T,T,T,T,T,T,T,T,T,F,F,F,T,F,F,F,F,F,F,F,F,F,F,F,F,F,F,F,F,F,F,F,F,F,F,F,F,F,F,F,F,F,F] rfl rfl HT_.out HW_.out hHeld ?_
                refine pU 11 (some 46) #[T,T,T,T,T,T,T,T,T,T,T,T,F,F,T,F,F,F,F,F,F,F,F,F,F,F,F,F,F,F,F,F,F,F,F,F,F,F,F,F,F,F,F,F,F] rfl rfl HT_.out ?_
                refine pU 12 (some 47) #[T,T,T,T,T,T,T,T,T,T,T,T,T,F,T,F,F,F,F,F,F,F,F,F,F,F,F,F,F,F,F,F,F,F,F,F,F,F,F,F,F,F,F,F,F] rfl rfl HT_.out ?_
                refine tU11 13 (some 48) #[T,T,T,T,T,T,T,T,T,T,T,T,T,T,T,F,F,F,F,F,F,F,F,F,F,F,F,F,F,F,F,F,F,F,F,F,F,F,F,F,F,F,F,F,F] rfl rfl HT_.out HW_.out hHeld ?_
                refine tU11 15 (some 50) #[T,T,T,T,T,T,T,T,T,T,T,T,T,T,T,T,F,F,F,F,F,F,F,F,F,F,F,F,F,F,F,F,F,F,F,F,F,F,F,F,F,F,F,F,F] rfl rfl HT_.out HW_.out hHeld ?_
                refine pU 16 (some 51) #[T,T,T,T,T,T,T,T,T,T,T,T,T,T,T,T,T,F,F,F,F,F,F,F,F,F,F,F,F,F,F,F,F,F,F,F,F,F,F,F,F,F,F,F,F] rfl rfl HT_.out ?_
                refine pU 17 (some 52) #[T,T,T,T,T,T,T,T,T,T,T,T,T,T,T,T,T,T,F,F,F,F,F,F,F,F,F,F,F,F,F,F,F,F,F,F,F,F,F,F,F,F,F,F,F] rfl rfl HT_.out ?_
                refine pU 18 (some 53) #[T,T,T,T,T,T,T,T,T,T,T,T,T,T,T,T,T,T,T,F,F,F,F,F,F,F,F,F,F,F,F,F,F,F,F,F,F,F,F,F,F,F,F,F,F] rfl rfl HT_.out ?_
                refine pU 19 (some 54) #[T,T,T,T,T,T,T,T,T,T,T,T,T,T,T,T,T,T,T,T,F,F,F,F,F,F,F,F,F,F,F,F,F,F,F,F,F,F,F,F,F,F,F,F,F] rfl rfl HT_.out ?_
                refine pV 20 (some 55) #[T,T,T,T,T,T,T,T,T,T,T,T,T,T,T,T,T,T,T,T,T,F,F,F,F,F,F,F,F,F,F,F,F,F,F,F,F,F,F,F,F,F,F,F,F] rfl rfl HT_.out ?_
                refine pV 21 (some 56) #[T,T,T,T,T,T,T,T,T,T,T,T,T,T,T,T,T,T,T,T,T,T,F,F,F,F,F,F,F,F,F,F,F,F,F,F,F,F,F,F,F,F,F,F,F] rfl rfl HT_.out ?_
                refine pV 22 (some 57) #[T,T,T,T,T,T,T,T,T,T,T,T,T,T,T,T,T,T,T,T,T,T,T,F,F,F,F,F,F,F,F,F,F,F,F,F,F,F,F,F,F,F,F,F,F] rfl rfl HT_.out ?_
                refine pV 23 (some 58) #[T,T,T,T,T,T,T,T,T,T,T,T,T,T,T,T,T,T,T,T,T,T,T,T,F,F,F,F,F,F,F,F,F,F,F,F,F,F,F,F,F,F,F,F,F] rfl rfl HT_.out ?_
                refine pV 24 (some 59) #[T,T,T,T,T,T,T,T,T,T,T,T,T,T,T,T,T,T,T,T,T,T,T,T,T,F,F,F,F,F,F,F,F,F,F,F,F,F,F,F,F,F,F,F,F] rfl rfl HT_.out ?_
                refine pV 25 (some 60) #[T,T,T,T,T,T,T,T,T,T,T,T,T,T,T,T,T,T,T,T,T,T,T,T,T,T,F,F,F,F,F,F,F,F,F,F,F,F,F,F,F,F,F,F,F] rfl rfl HT_.out ?_
                refine pV 26 (some 61) #[T,T,T,T,T,T,T,T,T,T,T,T,T,T,T,T,T,T,T,T,T,T,T,T,T,T,T,F,F,F,F,F,F,F,F,F,F,F,F,F,F,F,F,F,F] rfl rfl HT_.out ?_
                refine pU 27 (some 62) #[T,T,T,T,T,T,T,T,T,T,T,T,T,T,T,T,T,T,T,T,T,T,T,T,T,T,T,T,F,F,F,F,F,F,F,F,F,F,F,F,F,F,F,F,F] rfl rfl HT_.out ?_
                refine pU 28 (some 63) #[T,T,T,T,T,T,T,T,T,T,T,T,T,T,T,T,T,T,T,T,T,T,T,T,T,T,T,T,T,F,F,F,F,F,F,F,F,F,F,F,F,F,F,F,F] rfl rfl HT_.out ?_
                refine pV 29 (some 64) #[T,T,T,T,T,T,T,T,T,T,T,T,T,T,T,T,T,T,T,T,T,T,T,T,T,T,T,T,T,T,F,F,F,F,F,F,F,F,F,F,F,F,F,F,F] rfl rfl HT_.out ?_
                refine pV 30 (some 65) #[T,T,T,T,T,T,T,T,T,T,T,T,T,T,T,T,T,T,T,T,T,T,T,T,T,T,T,T,T,T,T,F,F,F,F,F,F,F,F,F,F,F,F,F,F] rfl rfl HT_.out ?_
                refine pV 31 (some 66) #[T,T,T,T,T,T,T,T,T,T,T,T,T,T,T,T,T,T,T,T,T,T,T,T,T,T,T,T,T,T,T,T,F,F,F,F,F,F,F,F,F,F,F,F,F] rfl rfl HT_.out ?_
                refine pV 32 (some 67) #[T,T,T,T,T,T,T,T,T,T,T,T,T,T,T,T,T,T,T,T,T,T,T,T,T,T,T,T,T,T,T,T,T,F,F,F,F,F,F,F,F,F,F,F,F] rfl rfl HT_.out ?_
                refine pV 33 (some 68) #[T,T,T,T,T,T,T,T,T,T,T,T,T,T,T,T,T,T,T,T,T,T,T,T,T,T,T,T,T,T,T,T,T,T,F,F,F,F,F,F,F,F,F,F,F] rfl rfl HT_.out ?_
                refine pV 34 (some 69) #[T,T,T,T,T,T,T,T,T,T,T,T,T,T,T,T,T,T,T,T,T,T,T,T,T,T,T,T,T,T,T,T,T,T,T,F,F,F,F,F,F,F,F,F,F] rfl rfl HT_.out ?_
                refine pU 35 (some 70) #[T,T,T,T,T,T,T,T,T,T,T,T,T,T,T,T,T,T,T,T,T,T,T,T,T,T,T,T,T,T,T,T,T,T,T,T,F,F,F,F,F,F,F,F,F] rfl rfl HT_.out ?_
                refine pU 36 (some 71) #[T,T,T,T,T,T,T,T,T,T,T,T,T,T,T,T,T,T,T,T,T,T,T,T,T,T,T,T,T,T,T,T,T,T,T,T,T,F,F,F,F,F,F,F,F] rfl rfl HT_.out ?_
                refine pV 37 (some 72) #[T,T,T,T,T,T,T,T,T,T,T,T,T,T,T,T,T,T,T,T,T,T,T,T,T,T,T,T,T,T,T,T,T,T,T,T,T,T,F,F,F,F,F,F,F] rfl rfl HT_.out ?_
                refine pV 38 (some 73) #[T,T,T,T,T,T,T,T,T,T,T,T,T,T,T,T,T,T,T,T,T,T,T,T,T,T,T,T,T,T,T,T,T,T,T,T,T,T,T,F,F,F,F,F,F] rfl rfl HT_.out ?_
                refine pV 39 (some 74) #[T,T,T,T,T,T,T,T,T,T,T,T,T,T,T,T,T,T,T,T,T,T,T,T,T,T,T,T,T,T,T,T,T,T,T,T,T,T,T,T,F,F,F,F,F] rfl rfl HT_.out ?_
                refine pV 40 (some 75) #[T,T,T,T,T,T,T,T,T,T,T,T,T,T,T,T,T,T,T,T,T,T,T,T,T,T,T,T,T,T,T,T,T,T,T,T,T,T,T,T,T,F,F,F,F] rfl rfl HT_.out ?_
                refine pV 41 (some 76) #[T,T,T,T,T,T,T,T,T,T,T,T,T,T,T,T,T,T,T,T,T,T,T,T,T,T,T,T,T,T,T,T,T,T,T,T,T,T,T,T,T,T,F,F,F] rfl rfl HT_.out ?_
                refine pV 42 (some 77) #[T,T,T,T,T,T,T,T,T,T,T,T,T,T,T,T,T,T,T,T,T,T,T,T,T,T,T,T,T,T,T,T,T,T,T,T,T,T,T,T,T,T,T,F,F] rfl rfl HT_.out ?_
                refine pV 43 (some 78) #[T,T,T,T,T,T,T,T,T,T,T,T,T,T,T,T,T,T,T,T,T,T,T,T,T,T,T,T,T,T,T,T,T,T,T,T,T,T,T,T,T,T,T,T,F] rfl rfl HT_.out ?_
                refine pU 44 (some 79) #[T,T,T,T,T,T,T,T,T,T,T,T,T,T,T,T,T,T,T,T,T,T,T,T,T,T,T,T,T,T,T,T,T,T,T,T,T,T,T,T,T,T,T,T,T] rfl rfl HT_.out ?_
                refine done_ (done_of HT_.out (by kernel_rfl)) ?_
                try go_wp2
                go_meet
                case rel => exact ⟨_, (true), nS, H', ⟨by have := HJ1.out; have := HK2.out; first | omega | exact Nat.le_refl _⟩, ⟨by refine nE ?_; exact BK128.out⟩, ⟨by refine nE ?_; exact BK132.out⟩, ⟨nH2 HB.out GE128.out GE132.out⟩⟩
              · rw [if_neg c26] at H
                have c26b0 : decide (((rd_T66 l0_2 x3_2).f0) ≤ ((rd_T66 l0_2 (ji23)).f0)) = false := decide_eq_false c26
                clear c26
                obtain ⟨t134, A290, H⟩ := Option.bind_eq_some_iff.mp H
                have A29 := aM A290
                clear A290
                by_cases c30 : t134 = true
                · subst c30
                  rw [if_pos rfl] at H
                  obtain ⟨t135, A310, H⟩ := Option.bind_eq_some_iff.mp H
                  have A31 := aM A310
                  clear A310
                  by_cases c32 : t135 = true
                  · subst c32
                    rw [if_pos rfl] at H
                    obtain ⟨t136, A330, H⟩ := Option.bind_eq_some_iff.mp H
                    have A33 := aM A330
                    clear A330
                    have H' := aM H
                    clear H
                    try go_wp2
                    have n0_ : Aside0 (((((w16.setCell ⟨gb132, 0, none⟩ (.int .i64 ((rd_T66 l0_2 x3_2).f0))).setCell ⟨gb132, 1, none⟩ (.int .i64 ((rd_T66 l0_2 x3_2).f1))).setCell ⟨gb132, 2, none⟩ (.int .i64 ((rd_T66 l0_2 x3_2).f2))).setCell ⟨gb132, 3, none⟩ (.int .i64 ((rd_T66 l0_2 x3_2).f3))).heap[gb128]? = some (.cells #[.int .i64 a0_0, .int .i64 a0_1, .slice (some ad131) l0_2.length c0_2] 29 (0, 0))) := ⟨by refine nE ?_; refine blk_far ?_ NB128_132.out _; refine nE ?_; refine blk_far ?_ NB128_132.out _; refine nE ?_; refine blk_far ?_ NB128_132.out _; refine nE ?_; refine blk_far ?_ NB128_132.out _; refine nE ?_; exact BK128.out⟩
                    have n1_ : Aside0 (((((w16.setCell ⟨gb132, 0, none⟩ (.int .i64 ((rd_T66 l0_2 x3_2).f0))).setCell ⟨gb132, 1, none⟩ (.int .i64 ((rd_T66 l0_2 x3_2).f1))).setCell ⟨gb132, 2, none⟩ (.int .i64 ((rd_T66 l0_2 x3_2).f2))).setCell ⟨gb132, 3, none⟩ (.int .i64 ((rd_T66 l0_2 x3_2).f3))).heap[gb132]? = some (.cells #[.int .i64 ((rd_T66 l0_2 x3_2).f0), .int .i64 ((rd_T66 l0_2 x3_2).f1), .int .i64 ((rd_T66 l0_2 x3_2).f2), .int .i64 ((rd_T66 l0_2 x3_2).f3)] 66 (0, 0))) := ⟨by refine nE ?_; refine blk_put (cs := #[.int .i64 ((rd_T66 l0_2 x3_2).f0), .int .i64 ((rd_T66 l0_2 x3_2).f1), .int .i64 ((rd_T66 l0_2 x3_2).f2), .int .i64 0]) ?_ 3 _ rfl; refine nE ?_; refine blk_put (cs := #[.int .i64 ((rd_T66 l0_2 x3_2).f0), .int .i64 ((rd_T66 l0_2 x3_2).f1), .int .i64 0, .int .i64 0]) ?_ 2 _ rfl; refine nE ?_; refine blk_put (cs := #[.int .i64 ((rd_T66 l0_2 x3_2).f0), .int .i64 0, .int .i64 0, .int .i64 0]) ?_ 1 _ rfl; refine nE ?_; refine blk_put (cs := #[.int .i64 0, .int .i64 0, .int .i64 0, .int .i64 0]) ?_ 0 _ rfl; refine nE ?_; exact BK132.out⟩
                    have n2_ : Aside0 (Below w.heap.size w ((((w16.setCell ⟨gb132, 0, none⟩ (.int .i64 ((rd_T66 l0_2 x3_2).f0))).setCell ⟨gb132, 1, none⟩ (.int .i64 ((rd_T66 l0_2 x3_2).f1))).setCell ⟨gb132, 2, none⟩ (.int .i64 ((rd_T66 l0_2 x3_2).f2))).setCell ⟨gb132, 3, none⟩ (.int .i64 ((rd_T66 l0_2 x3_2).f3)))) := ⟨nH2 HB.out GE128.out GE132.out⟩
                    (try clear BK128); (try clear BK132); (try clear HB)
                    generalize ((((w16.setCell ⟨gb132, 0, none⟩ (.int .i64 ((rd_T66 l0_2 x3_2).f0))).setCell ⟨gb132, 1, none⟩ (.int .i64 ((rd_T66 l0_2 x3_2).f1))).setCell ⟨gb132, 2, none⟩ (.int .i64 ((rd_T66 l0_2 x3_2).f2))).setCell ⟨gb132, 3, none⟩ (.int .i64 ((rd_T66 l0_2 x3_2).f3))) = w34 at n0_ n1_ n2_ ⊢
                    have BK128 := n0_; have BK132 := n1_; have HB := n2_; clear n0_ n1_ n2_
                    have n_ := aA (blk_drew BK128.out) <| aA (blk_drew BK132.out) <| aM (below_drew1 HB.out); clear BK128 BK132 HB; obtain ⟨BK128, BK132, HB⟩ := n_
                    have p133 : 0 ≤ ((ji23) : Int) := of_decide_eq_true nQ
                    have q133 : (ji23) < (l0_2.length : Int) := of_decide_eq_true nQ
                    obtain ⟨ad133, e133, hx133_0, hx133_1, hx133_2, hx133_3⟩ := at_T66 HR0_2.out (ji23) p133 q133
                    have hw133_3 := hx133_3; have hw133_2 := hx133_2; have hw133_1 := hx133_1; have hw133_0 := hx133_0
                    obtain rfl : ad131 = ad133 := (by injection e133)
                    replace hx133_0 := (HB.out.cell (World.block_lt_of_cell? w _ hx133_0)).trans hx133_0
                    replace hx133_1 := (HB.out.cell (World.block_lt_of_cell? w _ hx133_1)).trans hx133_1
                    replace hx133_2 := (HB.out.cell (World.block_lt_of_cell? w _ hx133_2)).trans hx133_2
                    replace hx133_3 := (HB.out.cell (World.block_lt_of_cell? w _ hx133_3)).trans hx133_3
                    replace p133 := eq_true p133; replace q133 := eq_true q133
                    refine start_ (n := 45) (S := fun w' => w'.cell? ⟨gb132, 0, none⟩ = some (.int .i64 ((rd_T66 l0_2 x3_2).f0)) ∧ w'.cell? ⟨gb132, 1, none⟩ = some (.int .i64 ((rd_T66 l0_2 x3_2).f1)) ∧ w'.cell? ⟨gb132, 2, none⟩ = some (.int .i64 ((rd_T66 l0_2 x3_2).f2)) ∧ w'.cell? ⟨gb132, 3, none⟩ = some (.int .i64 ((rd_T66 l0_2 x3_2).f3)) ∧ w'.cell? ⟨gb128, 0, none⟩ = some (.int .i64 a0_0) ∧ w'.cell? ⟨gb128, 1, none⟩ = some (.int .i64 a0_1) ∧ w'.cell? ⟨gb128, 2, none⟩ = some (.slice (some ad131) l0_2.length c0_2) ∧ w'.cell? (ad131.add (((ji23)).toNat * 4)) = some (.int .i64 ((rd_T66 l0_2 (ji23)).f0)) ∧ w'.cell? ⟨(ad131.add (((ji23)).toNat * 4)).block, (ad131.add (((ji23)).toNat * 4)).off + 1, none⟩ = some (.int .i64 ((rd_T66 l0_2 (ji23)).f1)) ∧ w'.cell? ⟨(ad131.add (((ji23)).toNat * 4)).block, (ad131.add (((ji23)).toNat * 4)).off + 2, none⟩ = some (.int .i64 ((rd_T66 l0_2 (ji23)).f2)) ∧ w'.cell? ⟨(ad131.add (((ji23)).toNat * 4)).block, (ad131.add (((ji23)).toNat * 4)).off + 3, none⟩ = some (.int .i64 ((rd_T66 l0_2 (ji23)).f3))) (ds := []) #[F,F,F,F,F,F,F,F,F,F,F,F,F,F,F,F,F,F,F,F,F,F,F,F,F,F,F,F,F,F,F,F,F,F,F,F,F,F,F,F,F,F,F,F,F] (by kernel_rfl) rfl rfl ⟨(blk_cell BK132.out 0).trans rfl, (blk_cell BK132.out 1).trans rfl, (blk_cell BK132.out 2).trans rfl, (blk_cell BK132.out 3).trans rfl, (blk_cell BK128.out 0).trans rfl, (blk_cell BK128.out 1).trans rfl, (blk_cell BK128.out 2).trans rfl, (nC HB.out hw133_0 :), (nC HB.out hw133_1 :), (nC HB.out hw133_2 :), (nC HB.out hw133_3 :)⟩ (fun hHeld => ?_); refine with_tabW spec_TrainOk.tab7 spec_TrainOk.bits7 (fun HT_ HW_ => ?_)
                    generalize w34.drew = w35 at BK128 BK132 HB hx133_0 hx133_1 hx133_2 hx133_3 hHeld ⊢
                    refine pU 0 (some 35) #[T,F,F,F,F,F,F,F,F,F,F,F,F,F,F,F,F,F,F,F,F,F,F,F,F,F,F,F,F,F,F,F,F,F,F,F,F,F,F,F,F,F,F,F,F] rfl rfl HT_.out ?_
                    refine tU11 1 (some 36) #[T,T,F,F,F,F,F,F,F,F,F,F,F,F,F,F,F,F,F,F,F,F,F,F,F,F,F,F,F,F,F,F,F,F,F,F,F,F,F,F,F,F,F,F,F] rfl rfl HT_.out HW_.out hHeld ?_
                    refine pU 2 (some 37) #[T,T,T,F,F,F,F,F,F,F,F,F,F,F,F,F,F,F,F,F,F,F,F,F,F,F,F,F,F,F,F,F,F,F,F,F,F,F,F,F,F,F,F,F,F] rfl rfl HT_.out ?_
                    refine pU 3 (some 38) #[T,T,T,T,F,F,F,F,F,F,F,F,F,F,F,F,F,F,F,F,F,F,F,F,F,F,F,F,F,F,F,F,F,F,F,F,F,F,F,F,F,F,F,F,F] rfl rfl HT_.out ?_
                    refine pU 4 (some 39) #[T,T,T,T,T,F,F,F,F,F,F,F,F,F,F,F,F,F,F,F,F,F,F,F,F,F,F,F,F,F,F,F,F,F,F,F,F,F,F,F,F,F,F,F,F] rfl rfl HT_.out ?_
                    refine pU 5 (some 40) #[T,T,T,T,T,T,F,F,F,F,F,F,F,F,F,F,F,F,F,F,F,F,F,F,F,F,F,F,F,F,F,F,F,F,F,F,F,F,F,F,F,F,F,F,F] rfl rfl HT_.out ?_
                    refine pU 6 (some 41) #[T,T,T,T,T,T,T,F,F,F,F,F,F,F,F,F,F,F,F,F,F,F,F,F,F,F,F,F,F,F,F,F,F,F,F,F,F,F,F,F,F,F,F,F,F] rfl rfl HT_.out ?_
                    refine pU 7 (some 42) #[T,T,T,T,T,T,T,T,F,F,F,F,F,F,F,F,F,F,F,F,F,F,F,F,F,F,F,F,F,F,F,F,F,F,F,F,F,F,F,F,F,F,F,F,F] rfl rfl HT_.out ?_
                    refine pU 9 (some 44) #[T,T,T,T,T,T,T,T,F,T,F,F,F,F,F,F,F,F,F,F,F,F,F,F,F,F,F,F,F,F,F,F,F,F,F,F,F,F,F,F,F,F,F,F,F] rfl rfl HT_.out ?_
                    refine pU 10 (some 45) #[T,T,T,T,T,T,T,T,F,T,T,F,F,F,F,F,F,F,F,F,F,F,F,F,F,F,F,F,F,F,F,F,F,F,F,F,F,F,F,F,F,F,F,F,F] rfl rfl HT_.out ?_
                    refine pU 14 (some 49) #[T,T,T,T,T,T,T,T,F,T,T,F,F,F,T,F,F,F,F,F,F,F,F,F,F,F,F,F,F,F,F,F,F,F,F,F,F,F,F,F,F,F,F,F,F] rfl rfl HT_.out ?_
                    refine tU11 8 (some 43) #[T,T,T,T,T,T,T,T,T,T,T,F,F,F,T,F,F,F,F,F,F,F,F,F,F,F,F,F,F,F,F,F,F,F,F,F,F,F,F,F,F,F,F,F,F] rfl rfl HT_.out HW_.out hHeld ?_
                    refine pU 11 (some 46) #[T,T,T,T,T,T,T,T,T,T,T,T,F,F,T,F,F,F,F,F,F,F,F,F,F,F,F,F,F,F,F,F,F,F,F,F,F,F,F,F,F,F,F,F,F] rfl rfl HT_.out ?_
                    refine pU 12 (some 47) #[T,T,T,T,T,T,T,T,T,T,T,T,T,F,T,F,F,F,F,F,F,F,F,F,F,F,F,F,F,F,F,F,F,F,F,F,F,F,F,F,F,F,F,F,F] rfl rfl HT_.out ?_
                    refine tU11 13 (some 48) #[T,T,T,T,T,T,T,T,T,T,T,T,T,T,T,F,F,F,F,F,F,F,F,F,F,F,F,F,F,F,F,F,F,F,F,F,F,F,F,F,F,F,F,F,F] rfl rfl HT_.out HW_.out hHeld ?_
                    refine tU11 15 (some 50) #[T,T,T,T,T,T,T,T,T,T,T,T,T,T,T,T,F,F,F,F,F,F,F,F,F,F,F,F,F,F,F,F,F,F,F,F,F,F,F,F,F,F,F,F,F] rfl rfl HT_.out HW_.out hHeld ?_
                    refine pU 16 (some 51) #[T,T,T,T,T,T,T,T,T,T,T,T,T,T,T,T,T,F,F,F,F,F,F,F,F,F,F,F,F,F,F,F,F,F,F,F,F,F,F,F,F,F,F,F,F] rfl rfl HT_.out ?_
                    refine pU 17 (some 52) #[T,T,T,T,T,T,T,T,T,T,T,T,T,T,T,T,T,T,F,F,F,F,F,F,F,F,F,F,F,F,F,F,F,F,F,F,F,F,F,F,F,F,F,F,F] rfl rfl HT_.out ?_
                    refine pU 18 (some 53) #[T,T,T,T,T,T,T,T,T,T,T,T,T,T,T,T,T,T,T,F,F,F,F,F,F,F,F,F,F,F,F,F,F,F,F,F,F,F,F,F,F,F,F,F,F] rfl rfl HT_.out ?_
                    refine pU 19 (some 54) #[T,T,T,T,T,T,T,T,T,T,T,T,T,T,T,T,T,T,T,T,F,F,F,F,F,F,F,F,F,F,F,F,F,F,F,F,F,F,F,F,F,F,F,F,F] rfl rfl HT_.out ?_
                    refine pU 20 (some 55) #[T,T,T,T,T,T,T,T,T,T,T,T,T,T,T,T,T,T,T,T,T,F,F,F,F,F,F,F,F,F,F,F,F,F,F,F,F,F,F,F,F,F,F,F,F] rfl rfl HT_.out ?_
                    refine pU 22 (some 57) #[T,T,T,T,T,T,T,T,T,T,T,T,T,T,T,T,T,T,T,T,T,F,T,F,F,F,F,F,F,F,F,F,F,F,F,F,F,F,F,F,F,F,F,F,F] rfl rfl HT_.out ?_
                    refine tU11 21 (some 56) #[T,T,T,T,T,T,T,T,T,T,T,T,T,T,T,T,T,T,T,T,T,T,T,F,F,F,F,F,F,F,F,F,F,F,F,F,F,F,F,F,F,F,F,F,F] rfl rfl HT_.out HW_.out hHeld ?_
                    refine tU11 23 (some 58) #[T,T,T,T,T,T,T,T,T,T,T,T,T,T,T,T,T,T,T,T,T,T,T,T,F,F,F,F,F,F,F,F,F,F,F,F,F,F,F,F,F,F,F,F,F] rfl rfl HT_.out HW_.out hHeld ?_
                    refine pU 24 (some 59) #[T,T,T,T,T,T,T,T,T,T,T,T,T,T,T,T,T,T,T,T,T,T,T,T,T,F,F,F,F,F,F,F,F,F,F,F,F,F,F,F,F,F,F,F,F] rfl rfl HT_.out ?_
                    refine one_ (i := 25) (N := some 60) #[T,T,T,T,T,T,T,T,T,T,T,T,T,T,T,T,T,T,T,T,T,T,T,T,T,T,F,F,F,F,F,F,F,F,F,F,F,F,F,F,F,F,F,F,F] rfl rfl (one_of HT_.out (by kernel_rfl)) (by decide) (fun K hK => ?_)
                    refine goes_ Try.func45 (by kernel_rfl) rfl #[.int .i64 ((rd_T66 l0_2 x3_2).f1), .int .i64 0, .int .i64 (wrap64 (a0_0 - 1))] (by rfl) rfl rfl (by (try simp only [List.map_toArray, List.map_cons, List.map_nil]); first | done | rfl | (simp only [List.length_drop, List.length_take]; rfl)) ?_
                    with_reducible refine (spec_l01In.calls ((rd_T66 l0_2 x3_2).f1) 0 (wrap64 (a0_0 - 1)) true _ A29.out).mono ?_
                    rintro e w' ⟨rfl, ⟨nd, rfl⟩⟩
                    refine ⟨_, rfl, ?_⟩
                    refine hK.out _ _ ⟨(blk_cell BK132.out 0).trans rfl, (blk_cell BK132.out 1).trans rfl, (blk_cell BK132.out 2).trans rfl, (blk_cell BK132.out 3).trans rfl, (blk_cell BK128.out 0).trans rfl, (blk_cell BK128.out 1).trans rfl, (blk_cell BK128.out 2).trans rfl, (nC HB.out hw133_0 :), (nC HB.out hw133_1 :), (nC HB.out hw133_2 :), (nC HB.out hw133_3 :)⟩ (fun hHeld => ?_)
                    clear hK K
                    refine norm_ (a' := ?_) ?_ ?_
                    rotate_left
                    · show Act.put _ (some 60) _ = _
                      simp only [Act.put, List.setIfInBounds_toArray, List.set_cons_zero, List.set_cons_succ, i64_w, i32_w]
                      rfl
                    refine pU 26 (some 61) #[T,T,T,T,T,T,T,T,T,T,T,T,T,T,T,T,T,T,T,T,T,T,T,T,T,T,T,F,F,F,F,F,F,F,F,F,F,F,F,F,F,F,F,F,F] rfl rfl HT_.out ?_
                    refine pU 27 (some 62) #[T,T,T,T,T,T,T,T,T,T,T,T,T,T,T,T,T,T,T,T,T,T,T,T,T,T,T,T,F,F,F,F,F,F,F,F,F,F,F,F,F,F,F,F,F] rfl rfl HT_.out ?_
                    refine pU 28 (some 63) #[T,T,T,T,T,T,T,T,T,T,T,T,T,T,T,T,T,T,T,T,T,T,T,T,T,T,T,T,T,F,F,F,F,F,F,F,F,F,F,F,F,F,F,F,F] rfl rfl HT_.out ?_
                    refine pU 29 (some 64) #[T,T,T,T,T,T,T,T,T,T,T,T,T,T,T,T,T,T,T,T,T,T,T,T,T,T,T,T,T,T,F,F,F,F,F,F,F,F,F,F,F,F,F,F,F] rfl rfl HT_.out ?_
                    refine pU 31 (some 66) #[T,T,T,T,T,T,T,T,T,T,T,T,T,T,T,T,T,T,T,T,T,T,T,T,T,T,T,T,T,T,F,T,F,F,F,F,F,F,F,F,F,F,F,F,F] rfl rfl HT_.out ?_
                    refine tU11 30 (some 65) #[T,T,T,T,T,T,T,T,T,T,T,T,T,T,T,T,T,T,T,T,T,T,T,T,T,T,T,T,T,T,T,T,F,F,F,F,F,F,F,F,F,F,F,F,F] rfl rfl HT_.out HW_.out hHeld ?_
                    refine tU11 32 (some 67) #[T,T,T,T,T,T,T,T,T,T,T,T,T,T,T,T,T,T,T,T,T,T,T,T,T,T,T,T,T,T,T,T,T,F,F,F,F,F,F,F,F,F,F,F,F] rfl rfl HT_.out HW_.out hHeld ?_
                    refine one_ (i := 33) (N := some 68) #[T,T,T,T,T,T,T,T,T,T,T,T,T,T,T,T,T,T,T,T,T,T,T,T,T,T,T,T,T,T,T,T,T,T,F,F,F,F,F,F,F,F,F,F,F] rfl rfl (one_of HT_.out (by kernel_rfl)) (by decide) (fun K hK => ?_)
                    refine goes_ Try.func45 (by kernel_rfl) rfl #[.int .i64 ((rd_T66 l0_2 x3_2).f3), .int .i64 1, .int .i64 a0_1] (by rfl) rfl rfl (by (try simp only [List.map_toArray, List.map_cons, List.map_nil]); first | done | rfl | (simp only [List.length_drop, List.length_take]; rfl)) ?_
                    with_reducible refine (spec_l01In.calls ((rd_T66 l0_2 x3_2).f3) 1 a0_1 true _ A31.out).mono ?_
                    rintro e w' ⟨rfl, ⟨nd, rfl⟩⟩
                    refine ⟨_, rfl, ?_⟩
                    refine hK.out _ _ ⟨(blk_cell BK132.out 0).trans rfl, (blk_cell BK132.out 1).trans rfl, (blk_cell BK132.out 2).trans rfl, (blk_cell BK132.out 3).trans rfl, (blk_cell BK128.out 0).trans rfl, (blk_cell BK128.out 1).trans rfl, (blk_cell BK128.out 2).trans rfl, (nC HB.out hw133_0 :), (nC HB.out hw133_1 :), (nC HB.out hw133_2 :), (nC HB.out hw133_3 :)⟩ (fun hHeld => ?_)
                    clear hK K
                    refine norm_ (a' := ?_) ?_ ?_
                    rotate_left
                    · show Act.put _ (some 68) _ = _
                      simp only [Act.put, List.setIfInBounds_toArray, List.set_cons_zero, List.set_cons_succ, i64_w, i32_w]
                      rfl
                    refine pU 34 (some 69) #[T,T,T,T,T,T,T,T,T,T,T,T,T,T,T,T,T,T,T,T,T,T,T,T,T,T,T,T,T,T,T,T,T,T,T,F,F,F,F,F,F,F,F,F,F] rfl rfl HT_.out ?_
                    refine pU 35 (some 70) #[T,T,T,T,T,T,T,T,T,T,T,T,T,T,T,T,T,T,T,T,T,T,T,T,T,T,T,T,T,T,T,T,T,T,T,T,F,F,F,F,F,F,F,F,F] rfl rfl HT_.out ?_
                    refine pU 36 (some 71) #[T,T,T,T,T,T,T,T,T,T,T,T,T,T,T,T,T,T,T,T,T,T,T,T,T,T,T,T,T,T,T,T,T,T,T,T,T,F,F,F,F,F,F,F,F] rfl rfl HT_.out ?_
                    refine pU 37 (some 72) #[T,T,T,T,T,T,T,T,T,T,T,T,T,T,T,T,T,T,T,T,T,T,T,T,T,T,T,T,T,T,T,T,T,T,T,T,T,T,F,F,F,F,F,F,F] rfl rfl HT_.out ?_
                    refine pU 39 (some 74) #[T,T,T,T,T,T,T,T,T,T,T,T,T,T,T,T,T,T,T,T,T,T,T,T,T,T,T,T,T,T,T,T,T,T,T,T,T,T,F,T,F,F,F,F,F] rfl rfl HT_.out ?_
                    refine tU11 38 (some 73) #[T,T,T,T,T,T,T,T,T,T,T,T,T,T,T,T,T,T,T,T,T,T,T,T,T,T,T,T,T,T,T,T,T,T,T,T,T,T,T,T,F,F,F,F,F] rfl rfl HT_.out HW_.out hHeld ?_
                    refine tU11 40 (some 75) #[T,T,T,T,T,T,T,T,T,T,T,T,T,T,T,T,T,T,T,T,T,T,T,T,T,T,T,T,T,T,T,T,T,T,T,T,T,T,T,T,T,F,F,F,F] rfl rfl HT_.out HW_.out hHeld ?_
                    refine pU 41 (some 76) #[T,T,T,T,T,T,T,T,T,T,T,T,T,T,T,T,T,T,T,T,T,T,T,T,T,T,T,T,T,T,T,T,T,T,T,T,T,T,T,T,T,T,F,F,F] rfl rfl HT_.out ?_
                    refine one_ (i := 42) (N := some 77) #[T,T,T,T,T,T,T,T,T,T,T,T,T,T,T,T,T,T,T,T,T,T,T,T,T,T,T,T,T,T,T,T,T,T,T,T,T,T,T,T,T,T,T,F,F] rfl rfl (one_of HT_.out (by kernel_rfl)) (by decide) (fun K hK => ?_)
                    refine goes_ Try.func45 (by kernel_rfl) rfl #[.int .i64 ((rd_T66 l0_2 x3_2).f2), .int .i64 0, .int .i64 (wrap64 (((rd_T66 l0_2 x3_2).f3) - 1))] (by rfl) rfl rfl (by (try simp only [List.map_toArray, List.map_cons, List.map_nil]); first | done | rfl | (simp only [List.length_drop, List.length_take]; rfl)) ?_
                    with_reducible refine (spec_l01In.calls ((rd_T66 l0_2 x3_2).f2) 0 (wrap64 (((rd_T66 l0_2 x3_2).f3) - 1)) t136 _ A33.out).mono ?_
                    rintro e w' ⟨rfl, ⟨nd, rfl⟩⟩
                    refine ⟨_, rfl, ?_⟩
                    refine hK.out _ _ ⟨(blk_cell BK132.out 0).trans rfl, (blk_cell BK132.out 1).trans rfl, (blk_cell BK132.out 2).trans rfl, (blk_cell BK132.out 3).trans rfl, (blk_cell BK128.out 0).trans rfl, (blk_cell BK128.out 1).trans rfl, (blk_cell BK128.out 2).trans rfl, (nC HB.out hw133_0 :), (nC HB.out hw133_1 :), (nC HB.out hw133_2 :), (nC HB.out hw133_3 :)⟩ (fun hHeld => ?_)
                    clear hK K
                    refine norm_ (a' := ?_) ?_ ?_
                    rotate_left
                    · show Act.put _ (some 77) _ = _
                      simp only [Act.put, List.setIfInBounds_toArray, List.set_cons_zero, List.set_cons_succ, i64_w, i32_w]
                      rfl
                    refine pU 43 (some 78) #[T,T,T,T,T,T,T,T,T,T,T,T,T,T,T,T,T,T,T,T,T,T,T,T,T,T,T,T,T,T,T,T,T,T,T,T,T,T,T,T,T,T,T,T,F] rfl rfl HT_.out ?_
                    refine pU 44 (some 79) #[T,T,T,T,T,T,T,T,T,T,T,T,T,T,T,T,T,T,T,T,T,T,T,T,T,T,T,T,T,T,T,T,T,T,T,T,T,T,T,T,T,T,T,T,T] rfl rfl HT_.out ?_
                    refine done_ (done_of HT_.out (by kernel_rfl)) ?_
                    try go_wp2
                    go_meet
                    case rel => exact ⟨_, (!t136), nS, H', ⟨by have := HJ1.out; have := HK2.out; first | omega | exact Nat.le_refl _⟩, ⟨by refine nE ?_; exact BK128.out⟩, ⟨by refine nE ?_; exact BK132.out⟩, ⟨nH2 HB.out GE128.out GE132.out⟩⟩
                  · replace c32 := Bool.eq_false_iff.mpr c32
                    subst c32
                    rw [if_neg nN] at H
                    have H' := aM H
                    clear H
                    try go_wp2
                    have n0_ : Aside0 (((((w16.setCell ⟨gb132, 0, none⟩ (.int .i64 ((rd_T66 l0_2 x3_2).f0))).setCell ⟨gb132, 1, none⟩ (.int .i64 ((rd_T66 l0_2 x3_2).f1))).setCell ⟨gb132, 2, none⟩ (.int .i64 ((rd_T66 l0_2 x3_2).f2))).setCell ⟨gb132, 3, none⟩ (.int .i64 ((rd_T66 l0_2 x3_2).f3))).heap[gb128]? = some (.cells #[.int .i64 a0_0, .int .i64 a0_1, .slice (some ad131) l0_2.length c0_2] 29 (0, 0))) := ⟨by refine nE ?_; refine blk_far ?_ NB128_132.out _; refine nE ?_; refine blk_far ?_ NB128_132.out _; refine nE ?_; refine blk_far ?_ NB128_132.out _; refine nE ?_; refine blk_far ?_ NB128_132.out _; refine nE ?_; exact BK128.out⟩
                    have n1_ : Aside0 (((((w16.setCell ⟨gb132, 0, none⟩ (.int .i64 ((rd_T66 l0_2 x3_2).f0))).setCell ⟨gb132, 1, none⟩ (.int .i64 ((rd_T66 l0_2 x3_2).f1))).setCell ⟨gb132, 2, none⟩ (.int .i64 ((rd_T66 l0_2 x3_2).f2))).setCell ⟨gb132, 3, none⟩ (.int .i64 ((rd_T66 l0_2 x3_2).f3))).heap[gb132]? = some (.cells #[.int .i64 ((rd_T66 l0_2 x3_2).f0), .int .i64 ((rd_T66 l0_2 x3_2).f1), .int .i64 ((rd_T66 l0_2 x3_2).f2), .int .i64 ((rd_T66 l0_2 x3_2).f3)] 66 (0, 0))) := ⟨by refine nE ?_; refine blk_put (cs := #[.int .i64 ((rd_T66 l0_2 x3_2).f0), .int .i64 ((rd_T66 l0_2 x3_2).f1), .int .i64 ((rd_T66 l0_2 x3_2).f2), .int .i64 0]) ?_ 3 _ rfl; refine nE ?_; refine blk_put (cs := #[.int .i64 ((rd_T66 l0_2 x3_2).f0), .int .i64 ((rd_T66 l0_2 x3_2).f1), .int .i64 0, .int .i64 0]) ?_ 2 _ rfl; refine nE ?_; refine blk_put (cs := #[.int .i64 ((rd_T66 l0_2 x3_2).f0), .int .i64 0, .int .i64 0, .int .i64 0]) ?_ 1 _ rfl; refine nE ?_; refine blk_put (cs := #[.int .i64 0, .int .i64 0, .int .i64 0, .int .i64 0]) ?_ 0 _ rfl; refine nE ?_; exact BK132.out⟩
                    have n2_ : Aside0 (Below w.heap.size w ((((w16.setCell ⟨gb132, 0, none⟩ (.int .i64 ((rd_T66 l0_2 x3_2).f0))).setCell ⟨gb132, 1, none⟩ (.int .i64 ((rd_T66 l0_2 x3_2).f1))).setCell ⟨gb132, 2, none⟩ (.int .i64 ((rd_T66 l0_2 x3_2).f2))).setCell ⟨gb132, 3, none⟩ (.int .i64 ((rd_T66 l0_2 x3_2).f3)))) := ⟨nH2 HB.out GE128.out GE132.out⟩
                    (try clear BK128); (try clear BK132); (try clear HB)
                    generalize ((((w16.setCell ⟨gb132, 0, none⟩ (.int .i64 ((rd_T66 l0_2 x3_2).f0))).setCell ⟨gb132, 1, none⟩ (.int .i64 ((rd_T66 l0_2 x3_2).f1))).setCell ⟨gb132, 2, none⟩ (.int .i64 ((rd_T66 l0_2 x3_2).f2))).setCell ⟨gb132, 3, none⟩ (.int .i64 ((rd_T66 l0_2 x3_2).f3))) = w36 at n0_ n1_ n2_ ⊢
                    have BK128 := n0_; have BK132 := n1_; have HB := n2_; clear n0_ n1_ n2_
                    have n_ := aA (blk_drew BK128.out) <| aA (blk_drew BK132.out) <| aM (below_drew1 HB.out); clear BK128 BK132 HB; obtain ⟨BK128, BK132, HB⟩ := n_
                    have p133 : 0 ≤ ((ji23) : Int) := of_decide_eq_true nQ
                    have q133 : (ji23) < (l0_2.length : Int) := of_decide_eq_true nQ
                    obtain ⟨ad133, e133, hx133_0, hx133_1, hx133_2, hx133_3⟩ := at_T66 HR0_2.out (ji23) p133 q133
                    have hw133_3 := hx133_3; have hw133_2 := hx133_2; have hw133_1 := hx133_1; have hw133_0 := hx133_0
                    obtain rfl : ad131 = ad133 := (by injection e133)
                    replace hx133_0 := (HB.out.cell (World.block_lt_of_cell? w _ hx133_0)).trans hx133_0
                    replace hx133_1 := (HB.out.cell (World.block_lt_of_cell? w _ hx133_1)).trans hx133_1
                    replace hx133_2 := (HB.out.cell (World.block_lt_of_cell? w _ hx133_2)).trans hx133_2
                    replace hx133_3 := (HB.out.cell (World.block_lt_of_cell? w _ hx133_3)).trans hx133_3
                    replace p133 := eq_true p133; replace q133 := eq_true q133
                    refine start_ (n := 45) (S := fun w' => w'.cell? ⟨gb132, 0, none⟩ = some (.int .i64 ((rd_T66 l0_2 x3_2).f0)) ∧ w'.cell? ⟨gb132, 1, none⟩ = some (.int .i64 ((rd_T66 l0_2 x3_2).f1)) ∧ w'.cell? ⟨gb132, 2, none⟩ = some (.int .i64 ((rd_T66 l0_2 x3_2).f2)) ∧ w'.cell? ⟨gb132, 3, none⟩ = some (.int .i64 ((rd_T66 l0_2 x3_2).f3)) ∧ w'.cell? ⟨gb128, 0, none⟩ = some (.int .i64 a0_0) ∧ w'.cell? ⟨gb128, 1, none⟩ = some (.int .i64 a0_1) ∧ w'.cell? ⟨gb128, 2, none⟩ = some (.slice (some ad131) l0_2.length c0_2) ∧ w'.cell? (ad131.add (((ji23)).toNat * 4)) = some (.int .i64 ((rd_T66 l0_2 (ji23)).f0)) ∧ w'.cell? ⟨(ad131.add (((ji23)).toNat * 4)).block, (ad131.add (((ji23)).toNat * 4)).off + 1, none⟩ = some (.int .i64 ((rd_T66 l0_2 (ji23)).f1)) ∧ w'.cell? ⟨(ad131.add (((ji23)).toNat * 4)).block, (ad131.add (((ji23)).toNat * 4)).off + 2, none⟩ = some (.int .i64 ((rd_T66 l0_2 (ji23)).f2)) ∧ w'.cell? ⟨(ad131.add (((ji23)).toNat * 4)).block, (ad131.add (((ji23)).toNat * 4)).off + 3, none⟩ = some (.int .i64 ((rd_T66 l0_2 (ji23)).f3))) (ds := []) #[F,F,F,F,F,F,F,F,F,F,F,F,F,F,F,F,F,F,F,F,F,F,F,F,F,F,F,F,F,F,F,F,F,F,F,F,F,F,F,F,F,F,F,F,F] (by kernel_rfl) rfl rfl ⟨(blk_cell BK132.out 0).trans rfl, (blk_cell BK132.out 1).trans rfl, (blk_cell BK132.out 2).trans rfl, (blk_cell BK132.out 3).trans rfl, (blk_cell BK128.out 0).trans rfl, (blk_cell BK128.out 1).trans rfl, (blk_cell BK128.out 2).trans rfl, (nC HB.out hw133_0 :), (nC HB.out hw133_1 :), (nC HB.out hw133_2 :), (nC HB.out hw133_3 :)⟩ (fun hHeld => ?_); refine with_tabW spec_TrainOk.tab7 spec_TrainOk.bits7 (fun HT_ HW_ => ?_)
                    generalize w36.drew = w37 at BK128 BK132 HB hx133_0 hx133_1 hx133_2 hx133_3 hHeld ⊢
                    refine pU 0 (some 35) #[T,F,F,F,F,F,F,F,F,F,F,F,F,F,F,F,F,F,F,F,F,F,F,F,F,F,F,F,F,F,F,F,F,F,F,F,F,F,F,F,F,F,F,F,F] rfl rfl HT_.out ?_
                    refine tU11 1 (some 36) #[T,T,F,F,F,F,F,F,F,F,F,F,F,F,F,F,F,F,F,F,F,F,F,F,F,F,F,F,F,F,F,F,F,F,F,F,F,F,F,F,F,F,F,F,F] rfl rfl HT_.out HW_.out hHeld ?_
                    refine pU 2 (some 37) #[T,T,T,F,F,F,F,F,F,F,F,F,F,F,F,F,F,F,F,F,F,F,F,F,F,F,F,F,F,F,F,F,F,F,F,F,F,F,F,F,F,F,F,F,F] rfl rfl HT_.out ?_
                    refine pU 3 (some 38) #[T,T,T,T,F,F,F,F,F,F,F,F,F,F,F,F,F,F,F,F,F,F,F,F,F,F,F,F,F,F,F,F,F,F,F,F,F,F,F,F,F,F,F,F,F] rfl rfl HT_.out ?_
                    refine pU 4 (some 39) #[T,T,T,T,T,F,F,F,F,F,F,F,F,F,F,F,F,F,F,F,F,F,F,F,F,F,F,F,F,F,F,F,F,F,F,F,F,F,F,F,F,F,F,F,F] rfl rfl HT_.out ?_
                    refine pU 5 (some 40) #[T,T,T,T,T,T,F,F,F,F,F,F,F,F,F,F,F,F,F,F,F,F,F,F,F,F,F,F,F,F,F,F,F,F,F,F,F,F,F,F,F,F,F,F,F] rfl rfl HT_.out ?_
                    refine pU 6 (some 41) #[T,T,T,T,T,T,T,F,F,F,F,F,F,F,F,F,F,F,F,F,F,F,F,F,F,F,F,F,F,F,F,F,F,F,F,F,F,F,F,F,F,F,F,F,F] rfl rfl HT_.out ?_
                    refine pU 7 (some 42) #[T,T,T,T,T,T,T,T,F,F,F,F,F,F,F,F,F,F,F,F,F,F,F,F,F,F,F,F,F,F,F,F,F,F,F,F,F,F,F,F,F,F,F,F,F] rfl rfl HT_.out ?_
                    refine pU 9 (some 44) #[T,T,T,T,T,T,T,T,F,T,F,F,F,F,F,F,F,F,F,F,F,F,F,F,F,F,F,F,F,F,F,F,F,F,F,F,F,F,F,F,F,F,F,F,F] rfl rfl HT_.out ?_
                    refine pU 10 (some 45) #[T,T,T,T,T,T,T,T,F,T,T,F,F,F,F,F,F,F,F,F,F,F,F,F,F,F,F,F,F,F,F,F,F,F,F,F,F,F,F,F,F,F,F,F,F] rfl rfl HT_.out ?_
                    refine pU 14 (some 49) #[T,T,T,T,T,T,T,T,F,T,T,F,F,F,T,F,F,F,F,F,F,F,F,F,F,F,F,F,F,F,F,F,F,F,F,F,F,F,F,F,F,F,F,F,F] rfl rfl HT_.out ?_
                    refine tU11 8 (some 43) #[T,T,T,T,T,T,T,T,T,T,T,F,F,F,T,F,F,F,F,F,F,F,F,F,F,F,F,F,F,F,F,F,F,F,F,F,F,F,F,F,F,F,F,F,F] rfl rfl HT_.out HW_.out hHeld ?_
                    refine pU 11 (some 46) #[T,T,T,T,T,T,T,T,T,T,T,T,F,F,T,F,F,F,F,F,F,F,F,F,F,F,F,F,F,F,F,F,F,F,F,F,F,F,F,F,F,F,F,F,F] rfl rfl HT_.out ?_
                    refine pU 12 (some 47) #[T,T,T,T,T,T,T,T,T,T,T,T,T,F,T,F,F,F,F,F,F,F,F,F,F,F,F,F,F,F,F,F,F,F,F,F,F,F,F,F,F,F,F,F,F] rfl rfl HT_.out ?_
                    refine tU11 13 (some 48) #[T,T,T,T,T,T,T,T,T,T,T,T,T,T,T,F,F,F,F,F,F,F,F,F,F,F,F,F,F,F,F,F,F,F,F,F,F,F,F,F,F,F,F,F,F] rfl rfl HT_.out HW_.out hHeld ?_
                    refine tU11 15 (some 50) #[T,T,T,T,T,T,T,T,T,T,T,T,T,T,T,T,F,F,F,F,F,F,F,F,F,F,F,F,F,F,F,F,F,F,F,F,F,F,F,F,F,F,F,F,F] rfl rfl HT_.out HW_.out hHeld ?_
                    refine pU 16 (some 51) #[T,T,T,T,T,T,T,T,T,T,T,T,T,T,T,T,T,F,F,F,F,F,F,F,F,F,F,F,F,F,F,F,F,F,F,F,F,F,F,F,F,F,F,F,F] rfl rfl HT_.out ?_
                    refine pU 17 (some 52) #[T,T,T,T,T,T,T,T,T,T,T,T,T,T,T,T,T,T,F,F,F,F,F,F,F,F,F,F,F,F,F,F,F,F,F,F,F,F,F,F,F,F,F,F,F] rfl rfl HT_.out ?_
                    refine pU 18 (some 53) #[T,T,T,T,T,T,T,T,T,T,T,T,T,T,T,T,T,T,T,F,F,F,F,F,F,F,F,F,F,F,F,F,F,F,F,F,F,F,F,F,F,F,F,F,F] rfl rfl HT_.out ?_
                    refine pU 19 (some 54) #[T,T,T,T,T,T,T,T,T,T,T,T,T,T,T,T,T,T,T,T,F,F,F,F,F,F,F,F,F,F,F,F,F,F,F,F,F,F,F,F,F,F,F,F,F] rfl rfl HT_.out ?_
                    refine pU 20 (some 55) #[T,T,T,T,T,T,T,T,T,T,T,T,T,T,T,T,T,T,T,T,T,F,F,F,F,F,F,F,F,F,F,F,F,F,F,F,F,F,F,F,F,F,F,F,F] rfl rfl HT_.out ?_
                    refine pU 22 (some 57) #[T,T,T,T,T,T,T,T,T,T,T,T,T,T,T,T,T,T,T,T,T,F,T,F,F,F,F,F,F,F,F,F,F,F,F,F,F,F,F,F,F,F,F,F,F] rfl rfl HT_.out ?_
                    refine tU11 21 (some 56) #[T,T,T,T,T,T,T,T,T,T,T,T,T,T,T,T,T,T,T,T,T,T,T,F,F,F,F,F,F,F,F,F,F,F,F,F,F,F,F,F,F,F,F,F,F] rfl rfl HT_.out HW_.out hHeld ?_
                    refine tU11 23 (some 58) #[T,T,T,T,T,T,T,T,T,T,T,T,T,T,T,T,T,T,T,T,T,T,T,T,F,F,F,F,F,F,F,F,F,F,F,F,F,F,F,F,F,F,F,F,F] rfl rfl HT_.out HW_.out hHeld ?_
                    refine pU 24 (some 59) #[T,T,T,T,T,T,T,T,T,T,T,T,T,T,T,T,T,T,T,T,T,T,T,T,T,F,F,F,F,F,F,F,F,F,F,F,F,F,F,F,F,F,F,F,F] rfl rfl HT_.out ?_
                    refine one_ (i := 25) (N := some 60) #[T,T,T,T,T,T,T,T,T,T,T,T,T,T,T,T,T,T,T,T,T,T,T,T,T,T,F,F,F,F,F,F,F,F,F,F,F,F,F,F,F,F,F,F,F] rfl rfl (one_of HT_.out (by kernel_rfl)) (by decide) (fun K hK => ?_)
                    refine goes_ Try.func45 (by kernel_rfl) rfl #[.int .i64 ((rd_T66 l0_2 x3_2).f1), .int .i64 0, .int .i64 (wrap64 (a0_0 - 1))] (by rfl) rfl rfl (by (try simp only [List.map_toArray, List.map_cons, List.map_nil]); first | done | rfl | (simp only [List.length_drop, List.length_take]; rfl)) ?_
                    with_reducible refine (spec_l01In.calls ((rd_T66 l0_2 x3_2).f1) 0 (wrap64 (a0_0 - 1)) true _ A29.out).mono ?_
                    rintro e w' ⟨rfl, ⟨nd, rfl⟩⟩
                    refine ⟨_, rfl, ?_⟩
                    refine hK.out _ _ ⟨(blk_cell BK132.out 0).trans rfl, (blk_cell BK132.out 1).trans rfl, (blk_cell BK132.out 2).trans rfl, (blk_cell BK132.out 3).trans rfl, (blk_cell BK128.out 0).trans rfl, (blk_cell BK128.out 1).trans rfl, (blk_cell BK128.out 2).trans rfl, (nC HB.out hw133_0 :), (nC HB.out hw133_1 :), (nC HB.out hw133_2 :), (nC HB.out hw133_3 :)⟩ (fun hHeld => ?_)
                    clear hK K
                    refine norm_ (a' := ?_) ?_ ?_
                    rotate_left
                    · show Act.put _ (some 60) _ = _
                      simp only [Act.put, List.setIfInBounds_toArray, List.set_cons_zero, List.set_cons_succ, i64_w, i32_w]
                      rfl
                    refine pU 26 (some 61) #[T,T,T,T,T,T,T,T,T,T,T,T,T,T,T,T,T,T,T,T,T,T,T,T,T,T,T,F,F,F,F,F,F,F,F,F,F,F,F,F,F,F,F,F,F] rfl rfl HT_.out ?_
                    refine pU 27 (some 62) #[T,T,T,T,T,T,T,T,T,T,T,T,T,T,T,T,T,T,T,T,T,T,T,T,T,T,T,T,F,F,F,F,F,F,F,F,F,F,F,F,F,F,F,F,F] rfl rfl HT_.out ?_
                    refine pU 28 (some 63) #[T,T,T,T,T,T,T,T,T,T,T,T,T,T,T,T,T,T,T,T,T,T,T,T,T,T,T,T,T,F,F,F,F,F,F,F,F,F,F,F,F,F,F,F,F] rfl rfl HT_.out ?_
                    refine pU 29 (some 64) #[T,T,T,T,T,T,T,T,T,T,T,T,T,T,T,T,T,T,T,T,T,T,T,T,T,T,T,T,T,T,F,F,F,F,F,F,F,F,F,F,F,F,F,F,F] rfl rfl HT_.out ?_
                    refine pU 31 (some 66) #[T,T,T,T,T,T,T,T,T,T,T,T,T,T,T,T,T,T,T,T,T,T,T,T,T,T,T,T,T,T,F,T,F,F,F,F,F,F,F,F,F,F,F,F,F] rfl rfl HT_.out ?_
                    refine tU11 30 (some 65) #[T,T,T,T,T,T,T,T,T,T,T,T,T,T,T,T,T,T,T,T,T,T,T,T,T,T,T,T,T,T,T,T,F,F,F,F,F,F,F,F,F,F,F,F,F] rfl rfl HT_.out HW_.out hHeld ?_
                    refine tU11 32 (some 67) #[T,T,T,T,T,T,T,T,T,T,T,T,T,T,T,T,T,T,T,T,T,T,T,T,T,T,T,T,T,T,T,T,T,F,F,F,F,F,F,F,F,F,F,F,F] rfl rfl HT_.out HW_.out hHeld ?_
                    refine one_ (i := 33) (N := some 68) #[T,T,T,T,T,T,T,T,T,T,T,T,T,T,T,T,T,T,T,T,T,T,T,T,T,T,T,T,T,T,T,T,T,T,F,F,F,F,F,F,F,F,F,F,F] rfl rfl (one_of HT_.out (by kernel_rfl)) (by decide) (fun K hK => ?_)
                    refine goes_ Try.func45 (by kernel_rfl) rfl #[.int .i64 ((rd_T66 l0_2 x3_2).f3), .int .i64 1, .int .i64 a0_1] (by rfl) rfl rfl (by (try simp only [List.map_toArray, List.map_cons, List.map_nil]); first | done | rfl | (simp only [List.length_drop, List.length_take]; rfl)) ?_
                    with_reducible refine (spec_l01In.calls ((rd_T66 l0_2 x3_2).f3) 1 a0_1 false _ A31.out).mono ?_
                    rintro e w' ⟨rfl, ⟨nd, rfl⟩⟩
                    refine ⟨_, rfl, ?_⟩
                    refine hK.out _ _ ⟨(blk_cell BK132.out 0).trans rfl, (blk_cell BK132.out 1).trans rfl, (blk_cell BK132.out 2).trans rfl, (blk_cell BK132.out 3).trans rfl, (blk_cell BK128.out 0).trans rfl, (blk_cell BK128.out 1).trans rfl, (blk_cell BK128.out 2).trans rfl, (nC HB.out hw133_0 :), (nC HB.out hw133_1 :), (nC HB.out hw133_2 :), (nC HB.out hw133_3 :)⟩ (fun hHeld => ?_)
                    clear hK K
                    refine norm_ (a' := ?_) ?_ ?_
                    rotate_left
                    · show Act.put _ (some 68) _ = _
                      simp only [Act.put, List.setIfInBounds_toArray, List.set_cons_zero, List.set_cons_succ, i64_w, i32_w]
                      rfl
                    refine pU 34 (some 69) #[T,T,T,T,T,T,T,T,T,T,T,T,T,T,T,T,T,T,T,T,T,T,T,T,T,T,T,T,T,T,T,T,T,T,T,F,F,F,F,F,F,F,F,F,F] rfl rfl HT_.out ?_
                    refine pU 35 (some 70) #[T,T,T,T,T,T,T,T,T,T,T,T,T,T,T,T,T,T,T,T,T,T,T,T,T,T,T,T,T,T,T,T,T,T,T,T,F,F,F,F,F,F,F,F,F] rfl rfl HT_.out ?_
                    refine pU 36 (some 71) #[T,T,T,T,T,T,T,T,T,T,T,T,T,T,T,T,T,T,T,T,T,T,T,T,T,T,T,T,T,T,T,T,T,T,T,T,T,F,F,F,F,F,F,F,F] rfl rfl HT_.out ?_
                    refine pV 37 (some 72) #[T,T,T,T,T,T,T,T,T,T,T,T,T,T,T,T,T,T,T,T,T,T,T,T,T,T,T,T,T,T,T,T,T,T,T,T,T,T,F,F,F,F,F,F,F] rfl rfl HT_.out ?_
                    refine pV 38 (some 73) #[T,T,T,T,T,T,T,T,T,T,T,T,T,T,T,T,T,T,T,T,T,T,T,T,T,T,T,T,T,T,T,T,T,T,T,T,T,T,T,F,F,F,F,F,F] rfl rfl HT_.out ?_
                    refine pV 39 (some 74) #[T,T,T,T,T,T,T,T,T,T,T,T,T,T,T,T,T,T,T,T,T,T,T,T,T,T,T,T,T,T,T,T,T,T,T,T,T,T,T,T,F,F,F,F,F] rfl rfl HT_.out ?_
                    refine pV 40 (some 75) #[T,T,T,T,T,T,T,T,T,T,T,T,T,T,T,T,T,T,T,T,T,T,T,T,T,T,T,T,T,T,T,T,T,T,T,T,T,T,T,T,T,F,F,F,F] rfl rfl HT_.out ?_
                    refine pV 41 (some 76) #[T,T,T,T,T,T,T,T,T,T,T,T,T,T,T,T,T,T,T,T,T,T,T,T,T,T,T,T,T,T,T,T,T,T,T,T,T,T,T,T,T,T,F,F,F] rfl rfl HT_.out ?_
                    refine pV 42 (some 77) #[T,T,T,T,T,T,T,T,T,T,T,T,T,T,T,T,T,T,T,T,T,T,T,T,T,T,T,T,T,T,T,T,T,T,T,T,T,T,T,T,T,T,T,F,F] rfl rfl HT_.out ?_
                    refine pV 43 (some 78) #[T,T,T,T,T,T,T,T,T,T,T,T,T,T,T,T,T,T,T,T,T,T,T,T,T,T,T,T,T,T,T,T,T,T,T,T,T,T,T,T,T,T,T,T,F] rfl rfl HT_.out ?_
                    refine pU 44 (some 79) #[T,T,T,T,T,T,T,T,T,T,T,T,T,T,T,T,T,T,T,T,T,T,T,T,T,T,T,T,T,T,T,T,T,T,T,T,T,T,T,T,T,T,T,T,T] rfl rfl HT_.out ?_
                    refine done_ (done_of HT_.out (by kernel_rfl)) ?_
                    try go_wp2
                    go_meet
                    case rel => exact ⟨_, (true), nS, H', ⟨by have := HJ1.out; have := HK2.out; first | omega | exact Nat.le_refl _⟩, ⟨by refine nE ?_; exact BK128.out⟩, ⟨by refine nE ?_; exact BK132.out⟩, ⟨nH2 HB.out GE128.out GE132.out⟩⟩
                · replace c30 := Bool.eq_false_iff.mpr c30
                  subst c30
                  rw [if_neg nN] at H
                  have H' := aM H
                  clear H
                  try go_wp2
                  have n0_ : Aside0 (((((w16.setCell ⟨gb132, 0, none⟩ (.int .i64 ((rd_T66 l0_2 x3_2).f0))).setCell ⟨gb132, 1, none⟩ (.int .i64 ((rd_T66 l0_2 x3_2).f1))).setCell ⟨gb132, 2, none⟩ (.int .i64 ((rd_T66 l0_2 x3_2).f2))).setCell ⟨gb132, 3, none⟩ (.int .i64 ((rd_T66 l0_2 x3_2).f3))).heap[gb128]? = some (.cells #[.int .i64 a0_0, .int .i64 a0_1, .slice (some ad131) l0_2.length c0_2] 29 (0, 0))) := ⟨by refine nE ?_; refine blk_far ?_ NB128_132.out _; refine nE ?_; refine blk_far ?_ NB128_132.out _; refine nE ?_; refine blk_far ?_ NB128_132.out _; refine nE ?_; refine blk_far ?_ NB128_132.out _; refine nE ?_; exact BK128.out⟩
                  have n1_ : Aside0 (((((w16.setCell ⟨gb132, 0, none⟩ (.int .i64 ((rd_T66 l0_2 x3_2).f0))).setCell ⟨gb132, 1, none⟩ (.int .i64 ((rd_T66 l0_2 x3_2).f1))).setCell ⟨gb132, 2, none⟩ (.int .i64 ((rd_T66 l0_2 x3_2).f2))).setCell ⟨gb132, 3, none⟩ (.int .i64 ((rd_T66 l0_2 x3_2).f3))).heap[gb132]? = some (.cells #[.int .i64 ((rd_T66 l0_2 x3_2).f0), .int .i64 ((rd_T66 l0_2 x3_2).f1), .int .i64 ((rd_T66 l0_2 x3_2).f2), .int .i64 ((rd_T66 l0_2 x3_2).f3)] 66 (0, 0))) := ⟨by refine nE ?_; refine blk_put (cs := #[.int .i64 ((rd_T66 l0_2 x3_2).f0), .int .i64 ((rd_T66 l0_2 x3_2).f1), .int .i64 ((rd_T66 l0_2 x3_2).f2), .int .i64 0]) ?_ 3 _ rfl; refine nE ?_; refine blk_put (cs := #[.int .i64 ((rd_T66 l0_2 x3_2).f0), .int .i64 ((rd_T66 l0_2 x3_2).f1), .int .i64 0, .int .i64 0]) ?_ 2 _ rfl; refine nE ?_; refine blk_put (cs := #[.int .i64 ((rd_T66 l0_2 x3_2).f0), .int .i64 0, .int .i64 0, .int .i64 0]) ?_ 1 _ rfl; refine nE ?_; refine blk_put (cs := #[.int .i64 0, .int .i64 0, .int .i64 0, .int .i64 0]) ?_ 0 _ rfl; refine nE ?_; exact BK132.out⟩
                  have n2_ : Aside0 (Below w.heap.size w ((((w16.setCell ⟨gb132, 0, none⟩ (.int .i64 ((rd_T66 l0_2 x3_2).f0))).setCell ⟨gb132, 1, none⟩ (.int .i64 ((rd_T66 l0_2 x3_2).f1))).setCell ⟨gb132, 2, none⟩ (.int .i64 ((rd_T66 l0_2 x3_2).f2))).setCell ⟨gb132, 3, none⟩ (.int .i64 ((rd_T66 l0_2 x3_2).f3)))) := ⟨nH2 HB.out GE128.out GE132.out⟩
                  (try clear BK128); (try clear BK132); (try clear HB)
                  generalize ((((w16.setCell ⟨gb132, 0, none⟩ (.int .i64 ((rd_T66 l0_2 x3_2).f0))).setCell ⟨gb132, 1, none⟩ (.int .i64 ((rd_T66 l0_2 x3_2).f1))).setCell ⟨gb132, 2, none⟩ (.int .i64 ((rd_T66 l0_2 x3_2).f2))).setCell ⟨gb132, 3, none⟩ (.int .i64 ((rd_T66 l0_2 x3_2).f3))) = w38 at n0_ n1_ n2_ ⊢
                  have BK128 := n0_; have BK132 := n1_; have HB := n2_; clear n0_ n1_ n2_
                  have n_ := aA (blk_drew BK128.out) <| aA (blk_drew BK132.out) <| aM (below_drew1 HB.out); clear BK128 BK132 HB; obtain ⟨BK128, BK132, HB⟩ := n_
                  have p133 : 0 ≤ ((ji23) : Int) := of_decide_eq_true nQ
                  have q133 : (ji23) < (l0_2.length : Int) := of_decide_eq_true nQ
                  obtain ⟨ad133, e133, hx133_0, hx133_1, hx133_2, hx133_3⟩ := at_T66 HR0_2.out (ji23) p133 q133
                  have hw133_3 := hx133_3; have hw133_2 := hx133_2; have hw133_1 := hx133_1; have hw133_0 := hx133_0
                  obtain rfl : ad131 = ad133 := (by injection e133)
                  replace hx133_0 := (HB.out.cell (World.block_lt_of_cell? w _ hx133_0)).trans hx133_0
                  replace hx133_1 := (HB.out.cell (World.block_lt_of_cell? w _ hx133_1)).trans hx133_1
                  replace hx133_2 := (HB.out.cell (World.block_lt_of_cell? w _ hx133_2)).trans hx133_2
                  replace hx133_3 := (HB.out.cell (World.block_lt_of_cell? w _ hx133_3)).trans hx133_3
                  replace p133 := eq_true p133; replace q133 := eq_true q133
                  refine start_ (n := 45) (S := fun w' => w'.cell? ⟨gb132, 0, none⟩ = some (.int .i64 ((rd_T66 l0_2 x3_2).f0)) ∧ w'.cell? ⟨gb132, 1, none⟩ = some (.int .i64 ((rd_T66 l0_2 x3_2).f1)) ∧ w'.cell? ⟨gb132, 2, none⟩ = some (.int .i64 ((rd_T66 l0_2 x3_2).f2)) ∧ w'.cell? ⟨gb132, 3, none⟩ = some (.int .i64 ((rd_T66 l0_2 x3_2).f3)) ∧ w'.cell? ⟨gb128, 0, none⟩ = some (.int .i64 a0_0) ∧ w'.cell? ⟨gb128, 1, none⟩ = some (.int .i64 a0_1) ∧ w'.cell? ⟨gb128, 2, none⟩ = some (.slice (some ad131) l0_2.length c0_2) ∧ w'.cell? (ad131.add (((ji23)).toNat * 4)) = some (.int .i64 ((rd_T66 l0_2 (ji23)).f0)) ∧ w'.cell? ⟨(ad131.add (((ji23)).toNat * 4)).block, (ad131.add (((ji23)).toNat * 4)).off + 1, none⟩ = some (.int .i64 ((rd_T66 l0_2 (ji23)).f1)) ∧ w'.cell? ⟨(ad131.add (((ji23)).toNat * 4)).block, (ad131.add (((ji23)).toNat * 4)).off + 2, none⟩ = some (.int .i64 ((rd_T66 l0_2 (ji23)).f2)) ∧ w'.cell? ⟨(ad131.add (((ji23)).toNat * 4)).block, (ad131.add (((ji23)).toNat * 4)).off + 3, none⟩ = some (.int .i64 ((rd_T66 l0_2 (ji23)).f3))) (ds := []) #[F,F,F,F,F,F,F,F,F,F,F,F,F,F,F,F,F,F,F,F,F,F,F,F,F,F,F,F,F,F,F,F,F,F,F,F,F,F,F,F,F,F,F,F,F] (by kernel_rfl) rfl rfl ⟨(blk_cell BK132.out 0).trans rfl, (blk_cell BK132.out 1).trans rfl, (blk_cell BK132.out 2).trans rfl, (blk_cell BK132.out 3).trans rfl, (blk_cell BK128.out 0).trans rfl, (blk_cell BK128.out 1).trans rfl, (blk_cell BK128.out 2).trans rfl, (nC HB.out hw133_0 :), (nC HB.out hw133_1 :), (nC HB.out hw133_2 :), (nC HB.out hw133_3 :)⟩ (fun hHeld => ?_); refine with_tabW spec_TrainOk.tab7 spec_TrainOk.bits7 (fun HT_ HW_ => ?_)
                  generalize w38.drew = w39 at BK128 BK132 HB hx133_0 hx133_1 hx133_2 hx133_3 hHeld ⊢
                  refine pU 0 (some 35) #[T,F,F,F,F,F,F,F,F,F,F,F,F,F,F,F,F,F,F,F,F,F,F,F,F,F,F,F,F,F,F,F,F,F,F,F,F,F,F,F,F,F,F,F,F] rfl rfl HT_.out ?_
                  refine tU11 1 (some 36) #[T,T,F,F,F,F,F,F,F,F,F,F,F,F,F,F,F,F,F,F,F,F,F,F,F,F,F,F,F,F,F,F,F,F,F,F,F,F,F,F,F,F,F,F,F] rfl rfl HT_.out HW_.out hHeld ?_
                  refine pU 2 (some 37) #[T,T,T,F,F,F,F,F,F,F,F,F,F,F,F,F,F,F,F,F,F,F,F,F,F,F,F,F,F,F,F,F,F,F,F,F,F,F,F,F,F,F,F,F,F] rfl rfl HT_.out ?_
                  refine pU 3 (some 38) #[T,T,T,T,F,F,F,F,F,F,F,F,F,F,F,F,F,F,F,F,F,F,F,F,F,F,F,F,F,F,F,F,F,F,F,F,F,F,F,F,F,F,F,F,F] rfl rfl HT_.out ?_
                  refine pU 4 (some 39) #[T,T,T,T,T,F,F,F,F,F,F,F,F,F,F,F,F,F,F,F,F,F,F,F,F,F,F,F,F,F,F,F,F,F,F,F,F,F,F,F,F,F,F,F,F] rfl rfl HT_.out ?_
                  refine pU 5 (some 40) #[T,T,T,T,T,T,F,F,F,F,F,F,F,F,F,F,F,F,F,F,F,F,F,F,F,F,F,F,F,F,F,F,F,F,F,F,F,F,F,F,F,F,F,F,F] rfl rfl HT_.out ?_
                  refine pU 6 (some 41) #[T,T,T,T,T,T,T,F,F,F,F,F,F,F,F,F,F,F,F,F,F,F,F,F,F,F,F,F,F,F,F,F,F,F,F,F,F,F,F,F,F,F,F,F,F] rfl rfl HT_.out ?_
                  refine pU 7 (some 42) #[T,T,T,T,T,T,T,T,F,F,F,F,F,F,F,F,F,F,F,F,F,F,F,F,F,F,F,F,F,F,F,F,F,F,F,F,F,F,F,F,F,F,F,F,F] rfl rfl HT_.out ?_
                  refine pU 9 (some 44) #[T,T,T,T,T,T,T,T,F,T,F,F,F,F,F,F,F,F,F,F,F,F,F,F,F,F,F,F,F,F,F,F,F,F,F,F,F,F,F,F,F,F,F,F,F] rfl rfl HT_.out ?_
                  refine pU 10 (some 45) #[T,T,T,T,T,T,T,T,F,T,T,F,F,F,F,F,F,F,F,F,F,F,F,F,F,F,F,F,F,F,F,F,F,F,F,F,F,F,F,F,F,F,F,F,F] rfl rfl HT_.out ?_
                  refine pU 14 (some 49) #[T,T,T,T,T,T,T,T,F,T,T,F,F,F,T,F,F,F,F,F,F,F,F,F,F,F,F,F,F,F,F,F,F,F,F,F,F,F,F,F,F,F,F,F,F] rfl rfl HT_.out ?_
                  refine tU11 8 (some 43) #[T,T,T,T,T,T,T,T,T,T,T,F,F,F,T,F,F,F,F,F,F,F,F,F,F,F,F,F,F,F,F,F,F,F,F,F,F,F,F,F,F,F,F,F,F] rfl rfl HT_.out HW_.out hHeld ?_
                  refine pU 11 (some 46) #[T,T,T,T,T,T,T,T,T,T,T,T,F,F,T,F,F,F,F,F,F,F,F,F,F,F,F,F,F,F,F,F,F,F,F,F,F,F,F,F,F,F,F,F,F] rfl rfl HT_.out ?_
                  refine pU 12 (some 47) #[T,T,T,T,T,T,T,T,T,T,T,T,T,F,T,F,F,F,F,F,F,F,F,F,F,F,F,F,F,F,F,F,F,F,F,F,F,F,F,F,F,F,F,F,F] rfl rfl HT_.out ?_
                  refine tU11 13 (some 48) #[T,T,T,T,T,T,T,T,T,T,T,T,T,T,T,F,F,F,F,F,F,F,F,F,F,F,F,F,F,F,F,F,F,F,F,F,F,F,F,F,F,F,F,F,F] rfl rfl HT_.out HW_.out hHeld ?_
                  refine tU11 15 (some 50) #[T,T,T,T,T,T,T,T,T,T,T,T,T,T,T,T,F,F,F,F,F,F,F,F,F,F,F,F,F,F,F,F,F,F,F,F,F,F,F,F,F,F,F,F,F] rfl rfl HT_.out HW_.out hHeld ?_
                  refine pU 16 (some 51) #[T,T,T,T,T,T,T,T,T,T,T,T,T,T,T,T,T,F,F,F,F,F,F,F,F,F,F,F,F,F,F,F,F,F,F,F,F,F,F,F,F,F,F,F,F] rfl rfl HT_.out ?_
                  refine pU 17 (some 52) #[T,T,T,T,T,T,T,T,T,T,T,T,T,T,T,T,T,T,F,F,F,F,F,F,F,F,F,F,F,F,F,F,F,F,F,F,F,F,F,F,F,F,F,F,F] rfl rfl HT_.out ?_
                  refine pU 18 (some 53) #[T,T,T,T,T,T,T,T,T,T,T,T,T,T,T,T,T,T,T,F,F,F,F,F,F,F,F,F,F,F,F,F,F,F,F,F,F,F,F,F,F,F,F,F,F] rfl rfl HT_.out ?_
                  refine pU 19 (some 54) #[T,T,T,T,T,T,T,T,T,T,T,T,T,T,T,T,T,T,T,T,F,F,F,F,F,F,F,F,F,F,F,F,F,F,F,F,F,F,F,F,F,F,F,F,F] rfl rfl HT_.out ?_
                  refine pU 20 (some 55) #[T,T,T,T,T,T,T,T,T,T,T,T,T,T,T,T,T,T,T,T,T,F,F,F,F,F,F,F,F,F,F,F,F,F,F,F,F,F,F,F,F,F,F,F,F] rfl rfl HT_.out ?_
                  refine pU 22 (some 57) #[T,T,T,T,T,T,T,T,T,T,T,T,T,T,T,T,T,T,T,T,T,F,T,F,F,F,F,F,F,F,F,F,F,F,F,F,F,F,F,F,F,F,F,F,F] rfl rfl HT_.out ?_
                  refine tU11 21 (some 56) #[T,T,T,T,T,T,T,T,T,T,T,T,T,T,T,T,T,T,T,T,T,T,T,F,F,F,F,F,F,F,F,F,F,F,F,F,F,F,F,F,F,F,F,F,F] rfl rfl HT_.out HW_.out hHeld ?_
                  refine tU11 23 (some 58) #[T,T,T,T,T,T,T,T,T,T,T,T,T,T,T,T,T,T,T,T,T,T,T,T,F,F,F,F,F,F,F,F,F,F,F,F,F,F,F,F,F,F,F,F,F] rfl rfl HT_.out HW_.out hHeld ?_
                  refine pU 24 (some 59) #[T,T,T,T,T,T,T,T,T,T,T,T,T,T,T,T,T,T,T,T,T,T,T,T,T,F,F,F,F,F,F,F,F,F,F,F,F,F,F,F,F,F,F,F,F] rfl rfl HT_.out ?_
                  refine one_ (i := 25) (N := some 60) #[T,T,T,T,T,T,T,T,T,T,T,T,T,T,T,T,T,T,T,T,T,T,T,T,T,T,F,F,F,F,F,F,F,F,F,F,F,F,F,F,F,F,F,F,F] rfl rfl (one_of HT_.out (by kernel_rfl)) (by decide) (fun K hK => ?_)
                  refine goes_ Try.func45 (by kernel_rfl) rfl #[.int .i64 ((rd_T66 l0_2 x3_2).f1), .int .i64 0, .int .i64 (wrap64 (a0_0 - 1))] (by rfl) rfl rfl (by (try simp only [List.map_toArray, List.map_cons, List.map_nil]); first | done | rfl | (simp only [List.length_drop, List.length_take]; rfl)) ?_
                  with_reducible refine (spec_l01In.calls ((rd_T66 l0_2 x3_2).f1) 0 (wrap64 (a0_0 - 1)) false _ A29.out).mono ?_
                  rintro e w' ⟨rfl, ⟨nd, rfl⟩⟩
                  refine ⟨_, rfl, ?_⟩
                  refine hK.out _ _ ⟨(blk_cell BK132.out 0).trans rfl, (blk_cell BK132.out 1).trans rfl, (blk_cell BK132.out 2).trans rfl, (blk_cell BK132.out 3).trans rfl, (blk_cell BK128.out 0).trans rfl, (blk_cell BK128.out 1).trans rfl, (blk_cell BK128.out 2).trans rfl, (nC HB.out hw133_0 :), (nC HB.out hw133_1 :), (nC HB.out hw133_2 :), (nC HB.out hw133_3 :)⟩ (fun hHeld => ?_)
                  clear hK K
                  refine norm_ (a' := ?_) ?_ ?_
                  rotate_left
                  · show Act.put _ (some 60) _ = _
                    simp only [Act.put, List.setIfInBounds_toArray, List.set_cons_zero, List.set_cons_succ, i64_w, i32_w]
                    rfl
                  refine pU 26 (some 61) #[T,T,T,T,T,T,T,T,T,T,T,T,T,T,T,T,T,T,T,T,T,T,T,T,T,T,T,F,F,F,F,F,F,F,F,F,F,F,F,F,F,F,F,F,F] rfl rfl HT_.out ?_
                  refine pU 27 (some 62) #[T,T,T,T,T,T,T,T,T,T,T,T,T,T,T,T,T,T,T,T,T,T,T,T,T,T,T,T,F,F,F,F,F,F,F,F,F,F,F,F,F,F,F,F,F] rfl rfl HT_.out ?_
                  refine pU 28 (some 63) #[T,T,T,T,T,T,T,T,T,T,T,T,T,T,T,T,T,T,T,T,T,T,T,T,T,T,T,T,T,F,F,F,F,F,F,F,F,F,F,F,F,F,F,F,F] rfl rfl HT_.out ?_
                  refine pV 29 (some 64) #[T,T,T,T,T,T,T,T,T,T,T,T,T,T,T,T,T,T,T,T,T,T,T,T,T,T,T,T,T,T,F,F,F,F,F,F,F,F,F,F,F,F,F,F,F] rfl rfl HT_.out ?_
                  refine pV 30 (some 65) #[T,T,T,T,T,T,T,T,T,T,T,T,T,T,T,T,T,T,T,T,T,T,T,T,T,T,T,T,T,T,T,F,F,F,F,F,F,F,F,F,F,F,F,F,F] rfl rfl HT_.out ?_
                  refine pV 31 (some 66) #[T,T,T,T,T,T,T,T,T,T,T,T,T,T,T,T,T,T,T,T,T,T,T,T,T,T,T,T,T,T,T,T,F,F,F,F,F,F,F,F,F,F,F,F,F] rfl rfl HT_.out ?_
                  refine pV 32 (some 67) #[T,T,T,T,T,T,T,T,T,T,T,T,T,T,T,T,T,T,T,T,T,T,T,T,T,T,T,T,T,T,T,T,T,F,F,F,F,F,F,F,F,F,F,F,F] rfl rfl HT_.out ?_
                  refine pV 33 (some 68) #[T,T,T,T,T,T,T,T,T,T,T,T,T,T,T,T,T,T,T,T,T,T,T,T,T,T,T,T,T,T,T,T,T,T,F,F,F,F,F,F,F,F,F,F,F] rfl rfl HT_.out ?_
                  refine pV 34 (some 69) #[T,T,T,T,T,T,T,T,T,T,T,T,T,T,T,T,T,T,T,T,T,T,T,T,T,T,T,T,T,T,T,T,T,T,T,F,F,F,F,F,F,F,F,F,F] rfl rfl HT_.out ?_
                  refine pU 35 (some 70) #[T,T,T,T,T,T,T,T,T,T,T,T,T,T,T,T,T,T,T,T,T,T,T,T,T,T,T,T,T,T,T,T,T,T,T,T,F,F,F,F,F,F,F,F,F] rfl rfl HT_.out ?_
                  refine pU 36 (some 71) #[T,T,T,T,T,T,T,T,T,T,T,T,T,T,T,T,T,T,T,T,T,T,T,T,T,T,T,T,T,T,T,T,T,T,T,T,T,F,F,F,F,F,F,F,F] rfl rfl HT_.out ?_
                  refine pV 37 (some 72) #[T,T,T,T,T,T,T,T,T,T,T,T,T,T,T,T,T,T,T,T,T,T,T,T,T,T,T,T,T,T,T,T,T,T,T,T,T,T,F,F,F,F,F,F,F] rfl rfl HT_.out ?_
                  refine pV 38 (some 73) #[T,T,T,T,T,T,T,T,T,T,T,T,T,T,T,T,T,T,T,T,T,T,T,T,T,T,T,T,T,T,T,T,T,T,T,T,T,T,T,F,F,F,F,F,F] rfl rfl HT_.out ?_
                  refine pV 39 (some 74) #[T,T,T,T,T,T,T,T,T,T,T,T,T,T,T,T,T,T,T,T,T,T,T,T,T,T,T,T,T,T,T,T,T,T,T,T,T,T,T,T,F,F,F,F,F] rfl rfl HT_.out ?_
                  refine pV 40 (some 75) #[T,T,T,T,T,T,T,T,T,T,T,T,T,T,T,T,T,T,T,T,T,T,T,T,T,T,T,T,T,T,T,T,T,T,T,T,T,T,T,T,T,F,F,F,F] rfl rfl HT_.out ?_
                  refine pV 41 (some 76) #[T,T,T,T,T,T,T,T,T,T,T,T,T,T,T,T,T,T,T,T,T,T,T,T,T,T,T,T,T,T,T,T,T,T,T,T,T,T,T,T,T,T,F,F,F] rfl rfl HT_.out ?_
                  refine pV 42 (some 77) #[T,T,T,T,T,T,T,T,T,T,T,T,T,T,T,T,T,T,T,T,T,T,T,T,T,T,T,T,T,T,T,T,T,T,T,T,T,T,T,T,T,T,T,F,F] rfl rfl HT_.out ?_
                  refine pV 43 (some 78) #[T,T,T,T,T,T,T,T,T,T,T,T,T,T,T,T,T,T,T,T,T,T,T,T,T,T,T,T,T,T,T,T,T,T,T,T,T,T,T,T,T,T,T,T,F] rfl rfl HT_.out ?_
                  refine pU 44 (some 79) #[T,T,T,T,T,T,T,T,T,T,T,T,T,T,T,T,T,T,T,T,T,T,T,T,T,T,T,T,T,T,T,T,T,T,T,T,T,T,T,T,T,T,T,T,T] rfl rfl HT_.out ?_
                  refine done_ (done_of HT_.out (by kernel_rfl)) ?_
                  try go_wp2
                  go_meet
                  case rel => exact ⟨_, (true), nS, H', ⟨by have := HJ1.out; have := HK2.out; first | omega | exact Nat.le_refl _⟩, ⟨by refine nE ?_; exact BK128.out⟩, ⟨by refine nE ?_; exact BK132.out⟩, ⟨nH2 HB.out GE128.out GE132.out⟩⟩
            · rw [if_neg c22] at H
              have c22b0 : decide (0 < x3_2) = false := decide_eq_false c22
              clear c22
              obtain ⟨t137, A400, H⟩ := Option.bind_eq_some_iff.mp H
              have A40 := aM A400
              clear A400
              by_cases c41 : t137 = true
              · subst c41
                rw [if_pos rfl] at H
                obtain ⟨t138, A420, H⟩ := Option.bind_eq_some_iff.mp H
                have A42 := aM A420
                clear A420
                by_cases c43 : t138 = true
                · subst c43
                  rw [if_pos rfl] at H
                  obtain ⟨t139, A440, H⟩ := Option.bind_eq_some_iff.mp H
                  have A44 := aM A440
                  clear A440
                  have H' := aM H
                  clear H
                  try go_wp2
                  have n0_ : Aside0 (((((w16.setCell ⟨gb132, 0, none⟩ (.int .i64 ((rd_T66 l0_2 x3_2).f0))).setCell ⟨gb132, 1, none⟩ (.int .i64 ((rd_T66 l0_2 x3_2).f1))).setCell ⟨gb132, 2, none⟩ (.int .i64 ((rd_T66 l0_2 x3_2).f2))).setCell ⟨gb132, 3, none⟩ (.int .i64 ((rd_T66 l0_2 x3_2).f3))).heap[gb128]? = some (.cells #[.int .i64 a0_0, .int .i64 a0_1, .slice (some ad131) l0_2.length c0_2] 29 (0, 0))) := ⟨by refine nE ?_; refine blk_far ?_ NB128_132.out _; refine nE ?_; refine blk_far ?_ NB128_132.out _; refine nE ?_; refine blk_far ?_ NB128_132.out _; refine nE ?_; refine blk_far ?_ NB128_132.out _; refine nE ?_; exact BK128.out⟩
                  have n1_ : Aside0 (((((w16.setCell ⟨gb132, 0, none⟩ (.int .i64 ((rd_T66 l0_2 x3_2).f0))).setCell ⟨gb132, 1, none⟩ (.int .i64 ((rd_T66 l0_2 x3_2).f1))).setCell ⟨gb132, 2, none⟩ (.int .i64 ((rd_T66 l0_2 x3_2).f2))).setCell ⟨gb132, 3, none⟩ (.int .i64 ((rd_T66 l0_2 x3_2).f3))).heap[gb132]? = some (.cells #[.int .i64 ((rd_T66 l0_2 x3_2).f0), .int .i64 ((rd_T66 l0_2 x3_2).f1), .int .i64 ((rd_T66 l0_2 x3_2).f2), .int .i64 ((rd_T66 l0_2 x3_2).f3)] 66 (0, 0))) := ⟨by refine nE ?_; refine blk_put (cs := #[.int .i64 ((rd_T66 l0_2 x3_2).f0), .int .i64 ((rd_T66 l0_2 x3_2).f1), .int .i64 ((rd_T66 l0_2 x3_2).f2), .int .i64 0]) ?_ 3 _ rfl; refine nE ?_; refine blk_put (cs := #[.int .i64 ((rd_T66 l0_2 x3_2).f0), .int .i64 ((rd_T66 l0_2 x3_2).f1), .int .i64 0, .int .i64 0]) ?_ 2 _ rfl; refine nE ?_; refine blk_put (cs := #[.int .i64 ((rd_T66 l0_2 x3_2).f0), .int .i64 0, .int .i64 0, .int .i64 0]) ?_ 1 _ rfl; refine nE ?_; refine blk_put (cs := #[.int .i64 0, .int .i64 0, .int .i64 0, .int .i64 0]) ?_ 0 _ rfl; refine nE ?_; exact BK132.out⟩
                  have n2_ : Aside0 (Below w.heap.size w ((((w16.setCell ⟨gb132, 0, none⟩ (.int .i64 ((rd_T66 l0_2 x3_2).f0))).setCell ⟨gb132, 1, none⟩ (.int .i64 ((rd_T66 l0_2 x3_2).f1))).setCell ⟨gb132, 2, none⟩ (.int .i64 ((rd_T66 l0_2 x3_2).f2))).setCell ⟨gb132, 3, none⟩ (.int .i64 ((rd_T66 l0_2 x3_2).f3)))) := ⟨nH2 HB.out GE128.out GE132.out⟩
                  (try clear BK128); (try clear BK132); (try clear HB)
                  generalize ((((w16.setCell ⟨gb132, 0, none⟩ (.int .i64 ((rd_T66 l0_2 x3_2).f0))).setCell ⟨gb132, 1, none⟩ (.int .i64 ((rd_T66 l0_2 x3_2).f1))).setCell ⟨gb132, 2, none⟩ (.int .i64 ((rd_T66 l0_2 x3_2).f2))).setCell ⟨gb132, 3, none⟩ (.int .i64 ((rd_T66 l0_2 x3_2).f3))) = w45 at n0_ n1_ n2_ ⊢
                  have BK128 := n0_; have BK132 := n1_; have HB := n2_; clear n0_ n1_ n2_
                  have n_ := aA (blk_drew BK128.out) <| aA (blk_drew BK132.out) <| aM (below_drew1 HB.out); clear BK128 BK132 HB; obtain ⟨BK128, BK132, HB⟩ := n_
                  refine start_ (n := 45) (S := fun w' => w'.cell? ⟨gb132, 0, none⟩ = some (.int .i64 ((rd_T66 l0_2 x3_2).f0)) ∧ w'.cell? ⟨gb132, 1, none⟩ = some (.int .i64 ((rd_T66 l0_2 x3_2).f1)) ∧ w'.cell? ⟨gb132, 2, none⟩ = some (.int .i64 ((rd_T66 l0_2 x3_2).f2)) ∧ w'.cell? ⟨gb132, 3, none⟩ = some (.int .i64 ((rd_T66 l0_2 x3_2).f3)) ∧ w'.cell? ⟨gb128, 0, none⟩ = some (.int .i64 a0_0) ∧ w'.cell? ⟨gb128, 1, none⟩ = some (.int .i64 a0_1) ∧ w'.cell? ⟨gb128, 2, none⟩ = some (.slice (some ad131) l0_2.length c0_2)) (ds := []) #[F,F,F,F,F,F,F,F,F,F,F,F,F,F,F,F,F,F,F,F,F,F,F,F,F,F,F,F,F,F,F,F,F,F,F,F,F,F,F,F,F,F,F,F,F] (by kernel_rfl) rfl rfl ⟨(blk_cell BK132.out 0).trans rfl, (blk_cell BK132.out 1).trans rfl, (blk_cell BK132.out 2).trans rfl, (blk_cell BK132.out 3).trans rfl, (blk_cell BK128.out 0).trans rfl, (blk_cell BK128.out 1).trans rfl, (blk_cell BK128.out 2).trans rfl⟩ (fun hHeld => ?_); refine with_tabW spec_TrainOk.tab7 spec_TrainOk.bits7 (fun HT_ HW_ => ?_)
                  generalize w45.drew = w46 at BK128 BK132 HB hHeld ⊢
                  refine pU 0 (some 35) #[T,F,F,F,F,F,F,F,F,F,F,F,F,F,F,F,F,F,F,F,F,F,F,F,F,F,F,F,F,F,F,F,F,F,F,F,F,F,F,F,F,F,F,F,F] rfl rfl HT_.out ?_
                  refine tU7 1 (some 36) #[T,T,F,F,F,F,F,F,F,F,F,F,F,F,F,F,F,F,F,F,F,F,F,F,F,F,F,F,F,F,F,F,F,F,F,F,F,F,F,F,F,F,F,F,F] rfl rfl HT_.out HW_.out hHeld ?_
                  refine pU 2 (some 37) #[T,T,T,F,F,F,F,F,F,F,F,F,F,F,F,F,F,F,F,F,F,F,F,F,F,F,F,F,F,F,F,F,F,F,F,F,F,F,F,F,F,F,F,F,F] rfl rfl HT_.out ?_
                  refine pU 3 (some 38) #[T,T,T,T,F,F,F,F,F,F,F,F,F,F,F,F,F,F,F,F,F,F,F,F,F,F,F,F,F,F,F,F,F,F,F,F,F,F,F,F,F,F,F,F,F] rfl rfl HT_.out ?_
                  refine pU 4 (some 39) #[T,T,T,T,T,F,F,F,F,F,F,F,F,F,F,F,F,F,F,F,F,F,F,F,F,F,F,F,F,F,F,F,F,F,F,F,F,F,F,F,F,F,F,F,F] rfl rfl HT_.out ?_
                  refine pU 5 (some 40) #[T,T,T,T,T,T,F,F,F,F,F,F,F,F,F,F,F,F,F,F,F,F,F,F,F,F,F,F,F,F,F,F,F,F,F,F,F,F,F,F,F,F,F,F,F] rfl rfl HT_.out ?_
                  refine pU 6 (some 41) #[T,T,T,T,T,T,T,F,F,F,F,F,F,F,F,F,F,F,F,F,F,F,F,F,F,F,F,F,F,F,F,F,F,F,F,F,F,F,F,F,F,F,F,F,F] rfl rfl HT_.out ?_
                  refine pV 7 (some 42) #[T,T,T,T,T,T,T,T,F,F,F,F,F,F,F,F,F,F,F,F,F,F,F,F,F,F,F,F,F,F,F,F,F,F,F,F,F,F,F,F,F,F,F,F,F] rfl rfl HT_.out ?_
                  refine pV 8 (some 43) #[T,T,T,T,T,T,T,T,T,F,F,F,F,F,F,F,F,F,F,F,F,F,F,F,F,F,F,F,F,F,F,F,F,F,F,F,F,F,F,F,F,F,F,F,F] rfl rfl HT_.out ?_
                  refine pV 9 (some 44) #[T,T,T,T,T,T,T,T,T,T,F,F,F,F,F,F,F,F,F,F,F,F,F,F,F,F,F,F,F,F,F,F,F,F,F,F,F,F,F,F,F,F,F,F,F] rfl rfl HT_.out ?_
                  refine pV 10 (some 45) #[T,T,T,T,T,T,T,T,T,T,T,F,F,F,F,F,F,F,F,F,F,F,F,F,F,F,F,F,F,F,F,F,F,F,F,F,F,F,F,F,F,F,F,F,F] rfl rfl HT_.out ?_
                  refine pV 11 (some 46) #[T,T,T,T,T,T,T,T,T,T,T,T,F,F,F,F,F,F,F,F,F,F,F,F,F,F,F,F,F,F,F,F,F,F,F,F,F,F,F,F,F,F,F,F,F] rfl rfl HT_.out ?_
                  refine pV 12 (some 47) #[T,T,T,T,T,T,T,T,T,T,T,T,T,F,F,F,F,F,F,F,F,F,F,F,F,F,F,F,F,F,F,F,F,F,F,F,F,F,F,F,F,F,F,F,F] rfl rfl HT_.out ?_
                  refine pV 13 (some 48) #[T,T,T,T,T,T,T,T,T,T,T,T,T,T,F,F,F,F,F,F,F,F,F,F,F,F,F,F,F,F,F,F,F,F,F,F,F,F,F,F,F,F,F,F,F] rfl rfl HT_.out ?_
                  refine pV 14 (some 49) #[T,T,T,T,T,T,T,T,T,T,T,T,T,T,T,F,F,F,F,F,F,F,F,F,F,F,F,F,F,F,F,F,F,F,F,F,F,F,F,F,F,F,F,F,F] rfl rfl HT_.out ?_
                  refine pV 15 (some 50) #[T,T,T,T,T,T,T,T,T,T,T,T,T,T,T,T,F,F,F,F,F,F,F,F,F,F,F,F,F,F,F,F,F,F,F,F,F,F,F,F,F,F,F,F,F] rfl rfl HT_.out ?_
                  refine pV 16 (some 51) #[T,T,T,T,T,T,T,T,T,T,T,T,T,T,T,T,T,F,F,F,F,F,F,F,F,F,F,F,F,F,F,F,F,F,F,F,F,F,F,F,F,F,F,F,F] rfl rfl HT_.out ?_
                  refine pU 17 (some 52) #[T,T,T,T,T,T,T,T,T,T,T,T,T,T,T,T,T,T,F,F,F,F,F,F,F,F,F,F,F,F,F,F,F,F,F,F,F,F,F,F,F,F,F,F,F] rfl rfl HT_.out ?_
                  refine pU 18 (some 53) #[T,T,T,T,T,T,T,T,T,T,T,T,T,T,T,T,T,T,T,F,F,F,F,F,F,F,F,F,F,F,F,F,F,F,F,F,F,F,F,F,F,F,F,F,F] rfl rfl HT_.out ?_
                  refine pU 19 (some 54) #[T,T,T,T,T,T,T,T,T,T,T,T,T,T,T,T,T,T,T,T,F,F,F,F,F,F,F,F,F,F,F,F,F,F,F,F,F,F,F,F,F,F,F,F,F] rfl rfl HT_.out ?_
                  refine pU 20 (some 55) #[T,T,T,T,T,T,T,T,T,T,T,T,T,T,T,T,T,T,T,T,T,F,F,F,F,F,F,F,F,F,F,F,F,F,F,F,F,F,F,F,F,F,F,F,F] rfl rfl HT_.out ?_
                  refine pU 22 (some 57) #[T,T,T,T,T,T,T,T,T,T,T,T,T,T,T,T,T,T,T,T,T,F,T,F,F,F,F,F,F,F,F,F,F,F,F,F,F,F,F,F,F,F,F,F,F] rfl rfl HT_.out ?_
                  refine tU7 21 (some 56) #[T,T,T,T,T,T,T,T,T,T,T,T,T,T,T,T,T,T,T,T,T,T,T,F,F,F,F,F,F,F,F,F,F,F,F,F,F,F,F,F,F,F,F,F,F] rfl rfl HT_.out HW_.out hHeld ?_
                  refine tU7 23 (some 58) #[T,T,T,T,T,T,T,T,T,T,T,T,T,T,T,T,T,T,T,T,T,T,T,T,F,F,F,F,F,F,F,F,F,F,F,F,F,F,F,F,F,F,F,F,F] rfl rfl HT_.out HW_.out hHeld ?_
                  refine pU 24 (some 59) #[T,T,T,T,T,T,T,T,T,T,T,T,T,T,T,T,T,T,T,T,T,T,T,T,T,F,F,F,F,F,F,F,F,F,F,F,F,F,F,F,F,F,F,F,F] rfl rfl HT_.out ?_
                  refine one_ (i := 25) (N := some 60) #[T,T,T,T,T,T,T,T,T,T,T,T,T,T,T,T,T,T,T,T,T,T,T,T,T,T,F,F,F,F,F,F,F,F,F,F,F,F,F,F,F,F,F,F,F] rfl rfl (one_of HT_.out (by kernel_rfl)) (by decide) (fun K hK => ?_)
                  refine goes_ Try.func45 (by kernel_rfl) rfl #[.int .i64 ((rd_T66 l0_2 x3_2).f1), .int .i64 0, .int .i64 (wrap64 (a0_0 - 1))] (by rfl) rfl rfl (by (try simp only [List.map_toArray, List.map_cons, List.map_nil]); first | done | rfl | (simp only [List.length_drop, List.length_take]; rfl)) ?_
                  with_reducible refine (spec_l01In.calls ((rd_T66 l0_2 x3_2).f1) 0 (wrap64 (a0_0 - 1)) true _ A40.out).mono ?_
                  rintro e w' ⟨rfl, ⟨nd, rfl⟩⟩
                  refine ⟨_, rfl, ?_⟩
                  refine hK.out _ _ ⟨(blk_cell BK132.out 0).trans rfl, (blk_cell BK132.out 1).trans rfl, (blk_cell BK132.out 2).trans rfl, (blk_cell BK132.out 3).trans rfl, (blk_cell BK128.out 0).trans rfl, (blk_cell BK128.out 1).trans rfl, (blk_cell BK128.out 2).trans rfl⟩ (fun hHeld => ?_)
                  clear hK K
                  refine norm_ (a' := ?_) ?_ ?_
                  rotate_left
                  · show Act.put _ (some 60) _ = _
                    simp only [Act.put, List.setIfInBounds_toArray, List.set_cons_zero, List.set_cons_succ, i64_w, i32_w]
                    rfl
                  refine pU 26 (some 61) #[T,T,T,T,T,T,T,T,T,T,T,T,T,T,T,T,T,T,T,T,T,T,T,T,T,T,T,F,F,F,F,F,F,F,F,F,F,F,F,F,F,F,F,F,F] rfl rfl HT_.out ?_
                  refine pU 27 (some 62) #[T,T,T,T,T,T,T,T,T,T,T,T,T,T,T,T,T,T,T,T,T,T,T,T,T,T,T,T,F,F,F,F,F,F,F,F,F,F,F,F,F,F,F,F,F] rfl rfl HT_.out ?_
                  refine pU 28 (some 63) #[T,T,T,T,T,T,T,T,T,T,T,T,T,T,T,T,T,T,T,T,T,T,T,T,T,T,T,T,T,F,F,F,F,F,F,F,F,F,F,F,F,F,F,F,F] rfl rfl HT_.out ?_
                  refine pU 29 (some 64) #[T,T,T,T,T,T,T,T,T,T,T,T,T,T,T,T,T,T,T,T,T,T,T,T,T,T,T,T,T,T,F,F,F,F,F,F,F,F,F,F,F,F,F,F,F] rfl rfl HT_.out ?_
                  refine pU 31 (some 66) #[T,T,T,T,T,T,T,T,T,T,T,T,T,T,T,T,T,T,T,T,T,T,T,T,T,T,T,T,T,T,F,T,F,F,F,F,F,F,F,F,F,F,F,F,F] rfl rfl HT_.out ?_
                  refine tU7 30 (some 65) #[T,T,T,T,T,T,T,T,T,T,T,T,T,T,T,T,T,T,T,T,T,T,T,T,T,T,T,T,T,T,T,T,F,F,F,F,F,F,F,F,F,F,F,F,F] rfl rfl HT_.out HW_.out hHeld ?_
                  refine tU7 32 (some 67) #[T,T,T,T,T,T,T,T,T,T,T,T,T,T,T,T,T,T,T,T,T,T,T,T,T,T,T,T,T,T,T,T,T,F,F,F,F,F,F,F,F,F,F,F,F] rfl rfl HT_.out HW_.out hHeld ?_
                  refine one_ (i := 33) (N := some 68) #[T,T,T,T,T,T,T,T,T,T,T,T,T,T,T,T,T,T,T,T,T,T,T,T,T,T,T,T,T,T,T,T,T,T,F,F,F,F,F,F,F,F,F,F,F] rfl rfl (one_of HT_.out (by kernel_rfl)) (by decide) (fun K hK => ?_)
                  refine goes_ Try.func45 (by kernel_rfl) rfl #[.int .i64 ((rd_T66 l0_2 x3_2).f3), .int .i64 1, .int .i64 a0_1] (by rfl) rfl rfl (by (try simp only [List.map_toArray, List.map_cons, List.map_nil]); first | done | rfl | (simp only [List.length_drop, List.length_take]; rfl)) ?_
                  with_reducible refine (spec_l01In.calls ((rd_T66 l0_2 x3_2).f3) 1 a0_1 true _ A42.out).mono ?_
                  rintro e w' ⟨rfl, ⟨nd, rfl⟩⟩
                  refine ⟨_, rfl, ?_⟩
                  refine hK.out _ _ ⟨(blk_cell BK132.out 0).trans rfl, (blk_cell BK132.out 1).trans rfl, (blk_cell BK132.out 2).trans rfl, (blk_cell BK132.out 3).trans rfl, (blk_cell BK128.out 0).trans rfl, (blk_cell BK128.out 1).trans rfl, (blk_cell BK128.out 2).trans rfl⟩ (fun hHeld => ?_)
                  clear hK K
                  refine norm_ (a' := ?_) ?_ ?_
                  rotate_left
                  · show Act.put _ (some 68) _ = _
                    simp only [Act.put, List.setIfInBounds_toArray, List.set_cons_zero, List.set_cons_succ, i64_w, i32_w]
                    rfl
                  refine pU 34 (some 69) #[T,T,T,T,T,T,T,T,T,T,T,T,T,T,T,T,T,T,T,T,T,T,T,T,T,T,T,T,T,T,T,T,T,T,T,F,F,F,F,F,F,F,F,F,F] rfl rfl HT_.out ?_
                  refine pU 35 (some 70) #[T,T,T,T,T,T,T,T,T,T,T,T,T,T,T,T,T,T,T,T,T,T,T,T,T,T,T,T,T,T,T,T,T,T,T,T,F,F,F,F,F,F,F,F,F] rfl rfl HT_.out ?_
                  refine pU 36 (some 71) #[T,T,T,T,T,T,T,T,T,T,T,T,T,T,T,T,T,T,T,T,T,T,T,T,T,T,T,T,T,T,T,T,T,T,T,T,T,F,F,F,F,F,F,F,F] rfl rfl HT_.out ?_
                  refine pU 37 (some 72) #[T,T,T,T,T,T,T,T,T,T,T,T,T,T,T,T,T,T,T,T,T,T,T,T,T,T,T,T,T,T,T,T,T,T,T,T,T,T,F,F,F,F,F,F,F] rfl rfl HT_.out ?_
                  refine pU 39 (some 74) #[T,T,T,T,T,T,T,T,T,T,T,T,T,T,T,T,T,T,T,T,T,T,T,T,T,T,T,T,T,T,T,T,T,T,T,T,T,T,F,T,F,F,F,F,F] rfl rfl HT_.out ?_
                  refine tU7 38 (some 73) #[T,T,T,T,T,T,T,T,T,T,T,T,T,T,T,T,T,T,T,T,T,T,T,T,T,T,T,T,T,T,T,T,T,T,T,T,T,T,T,T,F,F,F,F,F] rfl rfl HT_.out HW_.out hHeld ?_
                  refine tU7 40 (some 75) #[T,T,T,T,T,T,T,T,T,T,T,T,T,T,T,T,T,T,T,T,T,T,T,T,T,T,T,T,T,T,T,T,T,T,T,T,T,T,T,T,T,F,F,F,F] rfl rfl HT_.out HW_.out hHeld ?_
                  refine pU 41 (some 76) #[T,T,T,T,T,T,T,T,T,T,T,T,T,T,T,T,T,T,T,T,T,T,T,T,T,T,T,T,T,T,T,T,T,T,T,T,T,T,T,T,T,T,F,F,F] rfl rfl HT_.out ?_
                  refine one_ (i := 42) (N := some 77) #[T,T,T,T,T,T,T,T,T,T,T,T,T,T,T,T,T,T,T,T,T,T,T,T,T,T,T,T,T,T,T,T,T,T,T,T,T,T,T,T,T,T,T,F,F] rfl rfl (one_of HT_.out (by kernel_rfl)) (by decide) (fun K hK => ?_)
                  refine goes_ Try.func45 (by kernel_rfl) rfl #[.int .i64 ((rd_T66 l0_2 x3_2).f2), .int .i64 0, .int .i64 (wrap64 (((rd_T66 l0_2 x3_2).f3) - 1))] (by rfl) rfl rfl (by (try simp only [List.map_toArray, List.map_cons, List.map_nil]); first | done | rfl | (simp only [List.length_drop, List.length_take]; rfl)) ?_
                  with_reducible refine (spec_l01In.calls ((rd_T66 l0_2 x3_2).f2) 0 (wrap64 (((rd_T66 l0_2 x3_2).f3) - 1)) t139 _ A44.out).mono ?_
                  rintro e w' ⟨rfl, ⟨nd, rfl⟩⟩
                  refine ⟨_, rfl, ?_⟩
                  refine hK.out _ _ ⟨(blk_cell BK132.out 0).trans rfl, (blk_cell BK132.out 1).trans rfl, (blk_cell BK132.out 2).trans rfl, (blk_cell BK132.out 3).trans rfl, (blk_cell BK128.out 0).trans rfl, (blk_cell BK128.out 1).trans rfl, (blk_cell BK128.out 2).trans rfl⟩ (fun hHeld => ?_)
                  clear hK K
                  refine norm_ (a' := ?_) ?_ ?_
                  rotate_left
                  · show Act.put _ (some 77) _ = _
                    simp only [Act.put, List.setIfInBounds_toArray, List.set_cons_zero, List.set_cons_succ, i64_w, i32_w]
                    rfl
                  refine pU 43 (some 78) #[T,T,T,T,T,T,T,T,T,T,T,T,T,T,T,T,T,T,T,T,T,T,T,T,T,T,T,T,T,T,T,T,T,T,T,T,T,T,T,T,T,T,T,T,F] rfl rfl HT_.out ?_
                  refine pU 44 (some 79) #[T,T,T,T,T,T,T,T,T,T,T,T,T,T,T,T,T,T,T,T,T,T,T,T,T,T,T,T,T,T,T,T,T,T,T,T,T,T,T,T,T,T,T,T,T] rfl rfl HT_.out ?_
                  refine done_ (done_of HT_.out (by kernel_rfl)) ?_
                  try go_wp2
                  go_meet
                  case rel => exact ⟨_, (!t139), nS, H', ⟨by have := HJ1.out; have := HK2.out; first | omega | exact Nat.le_refl _⟩, ⟨by refine nE ?_; exact BK128.out⟩, ⟨by refine nE ?_; exact BK132.out⟩, ⟨nH2 HB.out GE128.out GE132.out⟩⟩
                · replace c43 := Bool.eq_false_iff.mpr c43
                  subst c43
                  rw [if_neg nN] at H
                  have H' := aM H
                  clear H
                  try go_wp2
                  have n0_ : Aside0 (((((w16.setCell ⟨gb132, 0, none⟩ (.int .i64 ((rd_T66 l0_2 x3_2).f0))).setCell ⟨gb132, 1, none⟩ (.int .i64 ((rd_T66 l0_2 x3_2).f1))).setCell ⟨gb132, 2, none⟩ (.int .i64 ((rd_T66 l0_2 x3_2).f2))).setCell ⟨gb132, 3, none⟩ (.int .i64 ((rd_T66 l0_2 x3_2).f3))).heap[gb128]? = some (.cells #[.int .i64 a0_0, .int .i64 a0_1, .slice (some ad131) l0_2.length c0_2] 29 (0, 0))) := ⟨by refine nE ?_; refine blk_far ?_ NB128_132.out _; refine nE ?_; refine blk_far ?_ NB128_132.out _; refine nE ?_; refine blk_far ?_ NB128_132.out _; refine nE ?_; refine blk_far ?_ NB128_132.out _; refine nE ?_; exact BK128.out⟩
                  have n1_ : Aside0 (((((w16.setCell ⟨gb132, 0, none⟩ (.int .i64 ((rd_T66 l0_2 x3_2).f0))).setCell ⟨gb132, 1, none⟩ (.int .i64 ((rd_T66 l0_2 x3_2).f1))).setCell ⟨gb132, 2, none⟩ (.int .i64 ((rd_T66 l0_2 x3_2).f2))).setCell ⟨gb132, 3, none⟩ (.int .i64 ((rd_T66 l0_2 x3_2).f3))).heap[gb132]? = some (.cells #[.int .i64 ((rd_T66 l0_2 x3_2).f0), .int .i64 ((rd_T66 l0_2 x3_2).f1), .int .i64 ((rd_T66 l0_2 x3_2).f2), .int .i64 ((rd_T66 l0_2 x3_2).f3)] 66 (0, 0))) := ⟨by refine nE ?_; refine blk_put (cs := #[.int .i64 ((rd_T66 l0_2 x3_2).f0), .int .i64 ((rd_T66 l0_2 x3_2).f1), .int .i64 ((rd_T66 l0_2 x3_2).f2), .int .i64 0]) ?_ 3 _ rfl; refine nE ?_; refine blk_put (cs := #[.int .i64 ((rd_T66 l0_2 x3_2).f0), .int .i64 ((rd_T66 l0_2 x3_2).f1), .int .i64 0, .int .i64 0]) ?_ 2 _ rfl; refine nE ?_; refine blk_put (cs := #[.int .i64 ((rd_T66 l0_2 x3_2).f0), .int .i64 0, .int .i64 0, .int .i64 0]) ?_ 1 _ rfl; refine nE ?_; refine blk_put (cs := #[.int .i64 0, .int .i64 0, .int .i64 0, .int .i64 0]) ?_ 0 _ rfl; refine nE ?_; exact BK132.out⟩
                  have n2_ : Aside0 (Below w.heap.size w ((((w16.setCell ⟨gb132, 0, none⟩ (.int .i64 ((rd_T66 l0_2 x3_2).f0))).setCell ⟨gb132, 1, none⟩ (.int .i64 ((rd_T66 l0_2 x3_2).f1))).setCell ⟨gb132, 2, none⟩ (.int .i64 ((rd_T66 l0_2 x3_2).f2))).setCell ⟨gb132, 3, none⟩ (.int .i64 ((rd_T66 l0_2 x3_2).f3)))) := ⟨nH2 HB.out GE128.out GE132.out⟩
                  (try clear BK128); (try clear BK132); (try clear HB)
                  generalize ((((w16.setCell ⟨gb132, 0, none⟩ (.int .i64 ((rd_T66 l0_2 x3_2).f0))).setCell ⟨gb132, 1, none⟩ (.int .i64 ((rd_T66 l0_2 x3_2).f1))).setCell ⟨gb132, 2, none⟩ (.int .i64 ((rd_T66 l0_2 x3_2).f2))).setCell ⟨gb132, 3, none⟩ (.int .i64 ((rd_T66 l0_2 x3_2).f3))) = w47 at n0_ n1_ n2_ ⊢
                  have BK128 := n0_; have BK132 := n1_; have HB := n2_; clear n0_ n1_ n2_
                  have n_ := aA (blk_drew BK128.out) <| aA (blk_drew BK132.out) <| aM (below_drew1 HB.out); clear BK128 BK132 HB; obtain ⟨BK128, BK132, HB⟩ := n_
                  refine start_ (n := 45) (S := fun w' => w'.cell? ⟨gb132, 0, none⟩ = some (.int .i64 ((rd_T66 l0_2 x3_2).f0)) ∧ w'.cell? ⟨gb132, 1, none⟩ = some (.int .i64 ((rd_T66 l0_2 x3_2).f1)) ∧ w'.cell? ⟨gb132, 2, none⟩ = some (.int .i64 ((rd_T66 l0_2 x3_2).f2)) ∧ w'.cell? ⟨gb132, 3, none⟩ = some (.int .i64 ((rd_T66 l0_2 x3_2).f3)) ∧ w'.cell? ⟨gb128, 0, none⟩ = some (.int .i64 a0_0) ∧ w'.cell? ⟨gb128, 1, none⟩ = some (.int .i64 a0_1) ∧ w'.cell? ⟨gb128, 2, none⟩ = some (.slice (some ad131) l0_2.length c0_2)) (ds := []) #[F,F,F,F,F,F,F,F,F,F,F,F,F,F,F,F,F,F,F,F,F,F,F,F,F,F,F,F,F,F,F,F,F,F,F,F,F,F,F,F,F,F,F,F,F] (by kernel_rfl) rfl rfl ⟨(blk_cell BK132.out 0).trans rfl, (blk_cell BK132.out 1).trans rfl, (blk_cell BK132.out 2).trans rfl, (blk_cell BK132.out 3).trans rfl, (blk_cell BK128.out 0).trans rfl, (blk_cell BK128.out 1).trans rfl, (blk_cell BK128.out 2).trans rfl⟩ (fun hHeld => ?_); refine with_tabW spec_TrainOk.tab7 spec_TrainOk.bits7 (fun HT_ HW_ => ?_)
                  generalize w47.drew = w48 at BK128 BK132 HB hHeld ⊢
                  refine pU 0 (some 35) #[T,F,F,F,F,F,F,F,F,F,F,F,F,F,F,F,F,F,F,F,F,F,F,F,F,F,F,F,F,F,F,F,F,F,F,F,F,F,F,F,F,F,F,F,F] rfl rfl HT_.out ?_
                  refine tU7 1 (some 36) #[T,T,F,F,F,F,F,F,F,F,F,F,F,F,F,F,F,F,F,F,F,F,F,F,F,F,F,F,F,F,F,F,F,F,F,F,F,F,F,F,F,F,F,F,F] rfl rfl HT_.out HW_.out hHeld ?_
                  refine pU 2 (some 37) #[T,T,T,F,F,F,F,F,F,F,F,F,F,F,F,F,F,F,F,F,F,F,F,F,F,F,F,F,F,F,F,F,F,F,F,F,F,F,F,F,F,F,F,F,F] rfl rfl HT_.out ?_
                  refine pU 3 (some 38) #[T,T,T,T,F,F,F,F,F,F,F,F,F,F,F,F,F,F,F,F,F,F,F,F,F,F,F,F,F,F,F,F,F,F,F,F,F,F,F,F,F,F,F,F,F] rfl rfl HT_.out ?_
                  refine pU 4 (some 39) #[T,T,T,T,T,F,F,F,F,F,F,F,F,F,F,F,F,F,F,F,F,F,F,F,F,F,F,F,F,F,F,F,F,F,F,F,F,F,F,F,F,F,F,F,F] rfl rfl HT_.out ?_
                  refine pU 5 (some 40) #[T,T,T,T,T,T,F,F,F,F,F,F,F,F,F,F,F,F,F,F,F,F,F,F,F,F,F,F,F,F,F,F,F,F,F,F,F,F,F,F,F,F,F,F,F] rfl rfl HT_.out ?_
                  refine pU 6 (some 41) #[T,T,T,T,T,T,T,F,F,F,F,F,F,F,F,F,F,F,F,F,F,F,F,F,F,F,F,F,F,F,F,F,F,F,F,F,F,F,F,F,F,F,F,F,F] rfl rfl HT_.out ?_
                  refine pV 7 (some 42) #[T,T,T,T,T,T,T,T,F,F,F,F,F,F,F,F,F,F,F,F,F,F,F,F,F,F,F,F,F,F,F,F,F,F,F,F,F,F,F,F,F,F,F,F,F] rfl rfl HT_.out ?_
                  refine pV 8 (some 43) #[T,T,T,T,T,T,T,T,T,F,F,F,F,F,F,F,F,F,F,F,F,F,F,F,F,F,F,F,F,F,F,F,F,F,F,F,F,F,F,F,F,F,F,F,F] rfl rfl HT_.out ?_
                  refine pV 9 (some 44) #[T,T,T,T,T,T,T,T,T,T,F,F,F,F,F,F,F,F,F,F,F,F,F,F,F,F,F,F,F,F,F,F,F,F,F,F,F,F,F,F,F,F,F,F,F] rfl rfl HT_.out ?_
                  refine pV 10 (some 45) #[T,T,T,T,T,T,T,T,T,T,T,F,F,F,F,F,F,F,F,F,F,F,F,F,F,F,F,F,F,F,F,F,F,F,F,F,F,F,F,F,F,F,F,F,F] rfl rfl HT_.out ?_
                  refine pV 11 (some 46) #[T,T,T,T,T,T,T,T,T,T,T,T,F,F,F,F,F,F,F,F,F,F,F,F,F,F,F,F,F,F,F,F,F,F,F,F,F,F,F,F,F,F,F,F,F] rfl rfl HT_.out ?_
                  refine pV 12 (some 47) #[T,T,T,T,T,T,T,T,T,T,T,T,T,F,F,F,F,F,F,F,F,F,F,F,F,F,F,F,F,F,F,F,F,F,F,F,F,F,F,F,F,F,F,F,F] rfl rfl HT_.out ?_
                  refine pV 13 (some 48) #[T,T,T,T,T,T,T,T,T,T,T,T,T,T,F,F,F,F,F,F,F,F,F,F,F,F,F,F,F,F,F,F,F,F,F,F,F,F,F,F,F,F,F,F,F] rfl rfl HT_.out ?_
                  refine pV 14 (some 49) #[T,T,T,T,T,T,T,T,T,T,T,T,T,T,T,F,F,F,F,F,F,F,F,F,F,F,F,F,F,F,F,F,F,F,F,F,F,F,F,F,F,F,F,F,F] rfl rfl HT_.out ?_
                  refine pV 15 (some 50) #[T,T,T,T,T,T,T,T,T,T,T,T,T,T,T,T,F,F,F,F,F,F,F,F,F,F,F,F,F,F,F,F,F,F,F,F,F,F,F,F,F,F,F,F,F] rfl rfl HT_.out ?_
                  refine pV 16 (some 51) #[T,T,T,T,T,T,T,T,T,T,T,T,T,T,T,T,T,F,F,F,F,F,F,F,F,F,F,F,F,F,F,F,F,F,F,F,F,F,F,F,F,F,F,F,F] rfl rfl HT_.out ?_
                  refine pU 17 (some 52) #[T,T,T,T,T,T,T,T,T,T,T,T,T,T,T,T,T,T,F,F,F,F,F,F,F,F,F,F,F,F,F,F,F,F,F,F,F,F,F,F,F,F,F,F,F] rfl rfl HT_.out ?_
                  refine pU 18 (some 53) #[T,T,T,T,T,T,T,T,T,T,T,T,T,T,T,T,T,T,T,F,F,F,F,F,F,F,F,F,F,F,F,F,F,F,F,F,F,F,F,F,F,F,F,F,F] rfl rfl HT_.out ?_
                  refine pU 19 (some 54) #[T,T,T,T,T,T,T,T,T,T,T,T,T,T,T,T,T,T,T,T,F,F,F,F,F,F,F,F,F,F,F,F,F,F,F,F,F,F,F,F,F,F,F,F,F] rfl rfl HT_.out ?_
                  refine pU 20 (some 55) #[T,T,T,T,T,T,T,T,T,T,T,T,T,T,T,T,T,T,T,T,T,F,F,F,F,F,F,F,F,F,F,F,F,F,F,F,F,F,F,F,F,F,F,F,F] rfl rfl HT_.out ?_
                  refine pU 22 (some 57) #[T,T,T,T,T,T,T,T,T,T,T,T,T,T,T,T,T,T,T,T,T,F,T,F,F,F,F,F,F,F,F,F,F,F,F,F,F,F,F,F,F,F,F,F,F] rfl rfl HT_.out ?_
                  refine tU7 21 (some 56) #[T,T,T,T,T,T,T,T,T,T,T,T,T,T,T,T,T,T,T,T,T,T,T,F,F,F,F,F,F,F,F,F,F,F,F,F,F,F,F,F,F,F,F,F,F] rfl rfl HT_.out HW_.out hHeld ?_
                  refine tU7 23 (some 58) #[T,T,T,T,T,T,T,T,T,T,T,T,T,T,T,T,T,T,T,T,T,T,T,T,F,F,F,F,F,F,F,F,F,F,F,F,F,F,F,F,F,F,F,F,F] rfl rfl HT_.out HW_.out hHeld ?_
                  refine pU 24 (some 59) #[T,T,T,T,T,T,T,T,T,T,T,T,T,T,T,T,T,T,T,T,T,T,T,T,T,F,F,F,F,F,F,F,F,F,F,F,F,F,F,F,F,F,F,F,F] rfl rfl HT_.out ?_
                  refine one_ (i := 25) (N := some 60) #[T,T,T,T,T,T,T,T,T,T,T,T,T,T,T,T,T,T,T,T,T,T,T,T,T,T,F,F,F,F,F,F,F,F,F,F,F,F,F,F,F,F,F,F,F] rfl rfl (one_of HT_.out (by kernel_rfl)) (by decide) (fun K hK => ?_)
                  refine goes_ Try.func45 (by kernel_rfl) rfl #[.int .i64 ((rd_T66 l0_2 x3_2).f1), .int .i64 0, .int .i64 (wrap64 (a0_0 - 1))] (by rfl) rfl rfl (by (try simp only [List.map_toArray, List.map_cons, List.map_nil]); first | done | rfl | (simp only [List.length_drop, List.length_take]; rfl)) ?_
                  with_reducible refine (spec_l01In.calls ((rd_T66 l0_2 x3_2).f1) 0 (wrap64 (a0_0 - 1)) true _ A40.out).mono ?_
                  rintro e w' ⟨rfl, ⟨nd, rfl⟩⟩
                  refine ⟨_, rfl, ?_⟩
                  refine hK.out _ _ ⟨(blk_cell BK132.out 0).trans rfl, (blk_cell BK132.out 1).trans rfl, (blk_cell BK132.out 2).trans rfl, (blk_cell BK132.out 3).trans rfl, (blk_cell BK128.out 0).trans rfl, (blk_cell BK128.out 1).trans rfl, (blk_cell BK128.out 2).trans rfl⟩ (fun hHeld => ?_)
                  clear hK K
                  refine norm_ (a' := ?_) ?_ ?_
                  rotate_left
                  · show Act.put _ (some 60) _ = _
                    simp only [Act.put, List.setIfInBounds_toArray, List.set_cons_zero, List.set_cons_succ, i64_w, i32_w]
                    rfl
                  refine pU 26 (some 61) #[T,T,T,T,T,T,T,T,T,T,T,T,T,T,T,T,T,T,T,T,T,T,T,T,T,T,T,F,F,F,F,F,F,F,F,F,F,F,F,F,F,F,F,F,F] rfl rfl HT_.out ?_
                  refine pU 27 (some 62) #[T,T,T,T,T,T,T,T,T,T,T,T,T,T,T,T,T,T,T,T,T,T,T,T,T,T,T,T,F,F,F,F,F,F,F,F,F,F,F,F,F,F,F,F,F] rfl rfl HT_.out ?_
                  refine pU 28 (some 63) #[T,T,T,T,T,T,T,T,T,T,T,T,T,T,T,T,T,T,T,T,T,T,T,T,T,T,T,T,T,F,F,F,F,F,F,F,F,F,F,F,F,F,F,F,F] rfl rfl HT_.out ?_
                  refine pU 29 (some 64) #[T,T,T,T,T,T,T,T,T,T,T,T,T,T,T,T,T,T,T,T,T,T,T,T,T,T,T,T,T,T,F,F,F,F,F,F,F,F,F,F,F,F,F,F,F] rfl rfl HT_.out ?_
                  refine pU 31 (some 66) #[T,T,T,T,T,T,T,T,T,T,T,T,T,T,T,T,T,T,T,T,T,T,T,T,T,T,T,T,T,T,F,T,F,F,F,F,F,F,F,F,F,F,F,F,F] rfl rfl HT_.out ?_
                  refine tU7 30 (some 65) #[T,T,T,T,T,T,T,T,T,T,T,T,T,T,T,T,T,T,T,T,T,T,T,T,T,T,T,T,T,T,T,T,F,F,F,F,F,F,F,F,F,F,F,F,F] rfl rfl HT_.out HW_.out hHeld ?_
                  refine tU7 32 (some 67) #[T,T,T,T,T,T,T,T,T,T,T,T,T,T,T,T,T,T,T,T,T,T,T,T,T,T,T,T,T,T,T,T,T,F,F,F,F,F,F,F,F,F,F,F,F] rfl rfl HT_.out HW_.out hHeld ?_
                  refine one_ (i := 33) (N := some 68) #[T,T,T,T,T,T,T,T,T,T,T,T,T,T,T,T,T,T,T,T,T,T,T,T,T,T,T,T,T,T,T,T,T,T,F,F,F,F,F,F,F,F,F,F,F] rfl rfl (one_of HT_.out (by kernel_rfl)) (by decide) (fun K hK => ?_)
                  refine goes_ Try.func45 (by kernel_rfl) rfl #[.int .i64 ((rd_T66 l0_2 x3_2).f3), .int .i64 1, .int .i64 a0_1] (by rfl) rfl rfl (by (try simp only [List.map_toArray, List.map_cons, List.map_nil]); first | done | rfl | (simp only [List.length_drop, List.length_take]; rfl)) ?_
                  with_reducible refine (spec_l01In.calls ((rd_T66 l0_2 x3_2).f3) 1 a0_1 false _ A42.out).mono ?_
                  rintro e w' ⟨rfl, ⟨nd, rfl⟩⟩
                  refine ⟨_, rfl, ?_⟩
                  refine hK.out _ _ ⟨(blk_cell BK132.out 0).trans rfl, (blk_cell BK132.out 1).trans rfl, (blk_cell BK132.out 2).trans rfl, (blk_cell BK132.out 3).trans rfl, (blk_cell BK128.out 0).trans rfl, (blk_cell BK128.out 1).trans rfl, (blk_cell BK128.out 2).trans rfl⟩ (fun hHeld => ?_)
                  clear hK K
                  refine norm_ (a' := ?_) ?_ ?_
                  rotate_left
                  · show Act.put _ (some 68) _ = _
                    simp only [Act.put, List.setIfInBounds_toArray, List.set_cons_zero, List.set_cons_succ, i64_w, i32_w]
                    rfl
                  refine pU 34 (some 69) #[T,T,T,T,T,T,T,T,T,T,T,T,T,T,T,T,T,T,T,T,T,T,T,T,T,T,T,T,T,T,T,T,T,T,T,F,F,F,F,F,F,F,F,F,F] rfl rfl HT_.out ?_
                  refine pU 35 (some 70) #[T,T,T,T,T,T,T,T,T,T,T,T,T,T,T,T,T,T,T,T,T,T,T,T,T,T,T,T,T,T,T,T,T,T,T,T,F,F,F,F,F,F,F,F,F] rfl rfl HT_.out ?_
                  refine pU 36 (some 71) #[T,T,T,T,T,T,T,T,T,T,T,T,T,T,T,T,T,T,T,T,T,T,T,T,T,T,T,T,T,T,T,T,T,T,T,T,T,F,F,F,F,F,F,F,F] rfl rfl HT_.out ?_
                  refine pV 37 (some 72) #[T,T,T,T,T,T,T,T,T,T,T,T,T,T,T,T,T,T,T,T,T,T,T,T,T,T,T,T,T,T,T,T,T,T,T,T,T,T,F,F,F,F,F,F,F] rfl rfl HT_.out ?_
                  refine pV 38 (some 73) #[T,T,T,T,T,T,T,T,T,T,T,T,T,T,T,T,T,T,T,T,T,T,T,T,T,T,T,T,T,T,T,T,T,T,T,T,T,T,T,F,F,F,F,F,F] rfl rfl HT_.out ?_
                  refine pV 39 (some 74) #[T,T,T,T,T,T,T,T,T,T,T,T,T,T,T,T,T,T,T,T,T,T,T,T,T,T,T,T,T,T,T,T,T,T,T,T,T,T,T,T,F,F,F,F,F] rfl rfl HT_.out ?_
                  refine pV 40 (some 75) #[T,T,T,T,T,T,T,T,T,T,T,T,T,T,T,T,T,T,T,T,T,T,T,T,T,T,T,T,T,T,T,T,T,T,T,T,T,T,T,T,T,F,F,F,F] rfl rfl HT_.out ?_
                  refine pV 41 (some 76) #[T,T,T,T,T,T,T,T,T,T,T,T,T,T,T,T,T,T,T,T,T,T,T,T,T,T,T,T,T,T,T,T,T,T,T,T,T,T,T,T,T,T,F,F,F] rfl rfl HT_.out ?_
                  refine pV 42 (some 77) #[T,T,T,T,T,T,T,T,T,T,T,T,T,T,T,T,T,T,T,T,T,T,T,T,T,T,T,T,T,T,T,T,T,T,T,T,T,T,T,T,T,T,T,F,F] rfl rfl HT_.out ?_
                  refine pV 43 (some 78) #[T,T,T,T,T,T,T,T,T,T,T,T,T,T,T,T,T,T,T,T,T,T,T,T,T,T,T,T,T,T,T,T,T,T,T,T,T,T,T,T,T,T,T,T,F] rfl rfl HT_.out ?_
                  refine pU 44 (some 79) #[T,T,T,T,T,T,T,T,T,T,T,T,T,T,T,T,T,T,T,T,T,T,T,T,T,T,T,T,T,T,T,T,T,T,T,T,T,T,T,T,T,T,T,T,T] rfl rfl HT_.out ?_
                  refine done_ (done_of HT_.out (by kernel_rfl)) ?_
                  try go_wp2
                  go_meet
                  case rel => exact ⟨_, (true), nS, H', ⟨by have := HJ1.out; have := HK2.out; first | omega | exact Nat.le_refl _⟩, ⟨by refine nE ?_; exact BK128.out⟩, ⟨by refine nE ?_; exact BK132.out⟩, ⟨nH2 HB.out GE128.out GE132.out⟩⟩
              · replace c41 := Bool.eq_false_iff.mpr c41
                subst c41
                rw [if_neg nN] at H
                have H' := aM H
                clear H
                try go_wp2
                have n0_ : Aside0 (((((w16.setCell ⟨gb132, 0, none⟩ (.int .i64 ((rd_T66 l0_2 x3_2).f0))).setCell ⟨gb132, 1, none⟩ (.int .i64 ((rd_T66 l0_2 x3_2).f1))).setCell ⟨gb132, 2, none⟩ (.int .i64 ((rd_T66 l0_2 x3_2).f2))).setCell ⟨gb132, 3, none⟩ (.int .i64 ((rd_T66 l0_2 x3_2).f3))).heap[gb128]? = some (.cells #[.int .i64 a0_0, .int .i64 a0_1, .slice (some ad131) l0_2.length c0_2] 29 (0, 0))) := ⟨by refine nE ?_; refine blk_far ?_ NB128_132.out _; refine nE ?_; refine blk_far ?_ NB128_132.out _; refine nE ?_; refine blk_far ?_ NB128_132.out _; refine nE ?_; refine blk_far ?_ NB128_132.out _; refine nE ?_; exact BK128.out⟩
                have n1_ : Aside0 (((((w16.setCell ⟨gb132, 0, none⟩ (.int .i64 ((rd_T66 l0_2 x3_2).f0))).setCell ⟨gb132, 1, none⟩ (.int .i64 ((rd_T66 l0_2 x3_2).f1))).setCell ⟨gb132, 2, none⟩ (.int .i64 ((rd_T66 l0_2 x3_2).f2))).setCell ⟨gb132, 3, none⟩ (.int .i64 ((rd_T66 l0_2 x3_2).f3))).heap[gb132]? = some (.cells #[.int .i64 ((rd_T66 l0_2 x3_2).f0), .int .i64 ((rd_T66 l0_2 x3_2).f1), .int .i64 ((rd_T66 l0_2 x3_2).f2), .int .i64 ((rd_T66 l0_2 x3_2).f3)] 66 (0, 0))) := ⟨by refine nE ?_; refine blk_put (cs := #[.int .i64 ((rd_T66 l0_2 x3_2).f0), .int .i64 ((rd_T66 l0_2 x3_2).f1), .int .i64 ((rd_T66 l0_2 x3_2).f2), .int .i64 0]) ?_ 3 _ rfl; refine nE ?_; refine blk_put (cs := #[.int .i64 ((rd_T66 l0_2 x3_2).f0), .int .i64 ((rd_T66 l0_2 x3_2).f1), .int .i64 0, .int .i64 0]) ?_ 2 _ rfl; refine nE ?_; refine blk_put (cs := #[.int .i64 ((rd_T66 l0_2 x3_2).f0), .int .i64 0, .int .i64 0, .int .i64 0]) ?_ 1 _ rfl; refine nE ?_; refine blk_put (cs := #[.int .i64 0, .int .i64 0, .int .i64 0, .int .i64 0]) ?_ 0 _ rfl; refine nE ?_; exact BK132.out⟩
                have n2_ : Aside0 (Below w.heap.size w ((((w16.setCell ⟨gb132, 0, none⟩ (.int .i64 ((rd_T66 l0_2 x3_2).f0))).setCell ⟨gb132, 1, none⟩ (.int .i64 ((rd_T66 l0_2 x3_2).f1))).setCell ⟨gb132, 2, none⟩ (.int .i64 ((rd_T66 l0_2 x3_2).f2))).setCell ⟨gb132, 3, none⟩ (.int .i64 ((rd_T66 l0_2 x3_2).f3)))) := ⟨nH2 HB.out GE128.out GE132.out⟩
                (try clear BK128); (try clear BK132); (try clear HB)
                generalize ((((w16.setCell ⟨gb132, 0, none⟩ (.int .i64 ((rd_T66 l0_2 x3_2).f0))).setCell ⟨gb132, 1, none⟩ (.int .i64 ((rd_T66 l0_2 x3_2).f1))).setCell ⟨gb132, 2, none⟩ (.int .i64 ((rd_T66 l0_2 x3_2).f2))).setCell ⟨gb132, 3, none⟩ (.int .i64 ((rd_T66 l0_2 x3_2).f3))) = w49 at n0_ n1_ n2_ ⊢
                have BK128 := n0_; have BK132 := n1_; have HB := n2_; clear n0_ n1_ n2_
                have n_ := aA (blk_drew BK128.out) <| aA (blk_drew BK132.out) <| aM (below_drew1 HB.out); clear BK128 BK132 HB; obtain ⟨BK128, BK132, HB⟩ := n_
                refine start_ (n := 45) (S := fun w' => w'.cell? ⟨gb132, 0, none⟩ = some (.int .i64 ((rd_T66 l0_2 x3_2).f0)) ∧ w'.cell? ⟨gb132, 1, none⟩ = some (.int .i64 ((rd_T66 l0_2 x3_2).f1)) ∧ w'.cell? ⟨gb132, 2, none⟩ = some (.int .i64 ((rd_T66 l0_2 x3_2).f2)) ∧ w'.cell? ⟨gb132, 3, none⟩ = some (.int .i64 ((rd_T66 l0_2 x3_2).f3)) ∧ w'.cell? ⟨gb128, 0, none⟩ = some (.int .i64 a0_0) ∧ w'.cell? ⟨gb128, 1, none⟩ = some (.int .i64 a0_1) ∧ w'.cell? ⟨gb128, 2, none⟩ = some (.slice (some ad131) l0_2.length c0_2)) (ds := []) #[F,F,F,F,F,F,F,F,F,F,F,F,F,F,F,F,F,F,F,F,F,F,F,F,F,F,F,F,F,F,F,F,F,F,F,F,F,F,F,F,F,F,F,F,F] (by kernel_rfl) rfl rfl ⟨(blk_cell BK132.out 0).trans rfl, (blk_cell BK132.out 1).trans rfl, (blk_cell BK132.out 2).trans rfl, (blk_cell BK132.out 3).trans rfl, (blk_cell BK128.out 0).trans rfl, (blk_cell BK128.out 1).trans rfl, (blk_cell BK128.out 2).trans rfl⟩ (fun hHeld => ?_); refine with_tabW spec_TrainOk.tab7 spec_TrainOk.bits7 (fun HT_ HW_ => ?_)
                generalize w49.drew = w50 at BK128 BK132 HB hHeld ⊢
                refine pU 0 (some 35) #[T,F,F,F,F,F,F,F,F,F,F,F,F,F,F,F,F,F,F,F,F,F,F,F,F,F,F,F,F,F,F,F,F,F,F,F,F,F,F,F,F,F,F,F,F] rfl rfl HT_.out ?_
                refine tU7 1 (some 36) #[T,T,F,F,F,F,F,F,F,F,F,F,F,F,F,F,F,F,F,F,F,F,F,F,F,F,F,F,F,F,F,F,F,F,F,F,F,F,F,F,F,F,F,F,F] rfl rfl HT_.out HW_.out hHeld ?_
                refine pU 2 (some 37) #[T,T,T,F,F,F,F,F,F,F,F,F,F,F,F,F,F,F,F,F,F,F,F,F,F,F,F,F,F,F,F,F,F,F,F,F,F,F,F,F,F,F,F,F,F] rfl rfl HT_.out ?_
                refine pU 3 (some 38) #[T,T,T,T,F,F,F,F,F,F,F,F,F,F,F,F,F,F,F,F,F,F,F,F,F,F,F,F,F,F,F,F,F,F,F,F,F,F,F,F,F,F,F,F,F] rfl rfl HT_.out ?_
                refine pU 4 (some 39) #[T,T,T,T,T,F,F,F,F,F,F,F,F,F,F,F,F,F,F,F,F,F,F,F,F,F,F,F,F,F,F,F,F,F,F,F,F,F,F,F,F,F,F,F,F] rfl rfl HT_.out ?_
                refine pU 5 (some 40) #[T,T,T,T,T,T,F,F,F,F,F,F,F,F,F,F,F,F,F,F,F,F,F,F,F,F,F,F,F,F,F,F,F,F,F,F,F,F,F,F,F,F,F,F,F] rfl rfl HT_.out ?_
                refine pU 6 (some 41) #[T,T,T,T,T,T,T,F,F,F,F,F,F,F,F,F,F,F,F,F,F,F,F,F,F,F,F,F,F,F,F,F,F,F,F,F,F,F,F,F,F,F,F,F,F] rfl rfl HT_.out ?_
                refine pV 7 (some 42) #[T,T,T,T,T,T,T,T,F,F,F,F,F,F,F,F,F,F,F,F,F,F,F,F,F,F,F,F,F,F,F,F,F,F,F,F,F,F,F,F,F,F,F,F,F] rfl rfl HT_.out ?_
                refine pV 8 (some 43) #[T,T,T,T,T,T,T,T,T,F,F,F,F,F,F,F,F,F,F,F,F,F,F,F,F,F,F,F,F,F,F,F,F,F,F,F,F,F,F,F,F,F,F,F,F] rfl rfl HT_.out ?_
                refine pV 9 (some 44) #[T,T,T,T,T,T,T,T,T,T,F,F,F,F,F,F,F,F,F,F,F,F,F,F,F,F,F,F,F,F,F,F,F,F,F,F,F,F,F,F,F,F,F,F,F] rfl rfl HT_.out ?_
                refine pV 10 (some 45) #[T,T,T,T,T,T,T,T,T,T,T,F,F,F,F,F,F,F,F,F,F,F,F,F,F,F,F,F,F,F,F,F,F,F,F,F,F,F,F,F,F,F,F,F,F] rfl rfl HT_.out ?_
                refine pV 11 (some 46) #[T,T,T,T,T,T,T,T,T,T,T,T,F,F,F,F,F,F,F,F,F,F,F,F,F,F,F,F,F,F,F,F,F,F,F,F,F,F,F,F,F,F,F,F,F] rfl rfl HT_.out ?_
                refine pV 12 (some 47) #[T,T,T,T,T,T,T,T,T,T,T,T,T,F,F,F,F,F,F,F,F,F,F,F,F,F,F,F,F,F,F,F,F,F,F,F,F,F,F,F,F,F,F,F,F] rfl rfl HT_.out ?_
                refine pV 13 (some 48) #[T,T,T,T,T,T,T,T,T,T,T,T,T,T,F,F,F,F,F,F,F,F,F,F,F,F,F,F,F,F,F,F,F,F,F,F,F,F,F,F,F,F,F,F,F] rfl rfl HT_.out ?_
                refine pV 14 (some 49) #[T,T,T,T,T,T,T,T,T,T,T,T,T,T,T,F,F,F,F,F,F,F,F,F,F,F,F,F,F,F,F,F,F,F,F,F,F,F,F,F,F,F,F,F,F] rfl rfl HT_.out ?_
                refine pV 15 (some 50) #[T,T,T,T,T,T,T,T,T,T,T,T,T,T,T,T,F,F,F,F,F,F,F,F,F,F,F,F,F,F,F,F,F,F,F,F,F,F,F,F,F,F,F,F,F] rfl rfl HT_.out ?_
                refine pV 16 (some 51) #[T,T,T,T,T,T,T,T,T,T,T,T,T,T,T,T,T,F,F,F,F,F,F,F,F,F,F,F,F,F,F,F,F,F,F,F,F,F,F,F,F,F,F,F,F] rfl rfl HT_.out ?_
                refine pU 17 (some 52) #[T,T,T,T,T,T,T,T,T,T,T,T,T,T,T,T,T,T,F,F,F,F,F,F,F,F,F,F,F,F,F,F,F,F,F,F,F,F,F,F,F,F,F,F,F] rfl rfl HT_.out ?_
                refine pU 18 (some 53) #[T,T,T,T,T,T,T,T,T,T,T,T,T,T,T,T,T,T,T,F,F,F,F,F,F,F,F,F,F,F,F,F,F,F,F,F,F,F,F,F,F,F,F,F,F] rfl rfl HT_.out ?_
                refine pU 19 (some 54) #[T,T,T,T,T,T,T,T,T,T,T,T,T,T,T,T,T,T,T,T,F,F,F,F,F,F,F,F,F,F,F,F,F,F,F,F,F,F,F,F,F,F,F,F,F] rfl rfl HT_.out ?_
                refine pU 20 (some 55) #[T,T,T,T,T,T,T,T,T,T,T,T,T,T,T,T,T,T,T,T,T,F,F,F,F,F,F,F,F,F,F,F,F,F,F,F,F,F,F,F,F,F,F,F,F] rfl rfl HT_.out ?_
                refine pU 22 (some 57) #[T,T,T,T,T,T,T,T,T,T,T,T,T,T,T,T,T,T,T,T,T,F,T,F,F,F,F,F,F,F,F,F,F,F,F,F,F,F,F,F,F,F,F,F,F] rfl rfl HT_.out ?_
                refine tU7 21 (some 56) #[T,T,T,T,T,T,T,T,T,T,T,T,T,T,T,T,T,T,T,T,T,T,T,F,F,F,F,F,F,F,F,F,F,F,F,F,F,F,F,F,F,F,F,F,F] rfl rfl HT_.out HW_.out hHeld ?_
                refine tU7 23 (some 58) #[T,T,T,T,T,T,T,T,T,T,T,T,T,T,T,T,T,T,T,T,T,T,T,T,F,F,F,F,F,F,F,F,F,F,F,F,F,F,F,F,F,F,F,F,F] rfl rfl HT_.out HW_.out hHeld ?_
                refine pU 24 (some 59) #[T,T,T,T,T,T,T,T,T,T,T,T,T,T,T,T,T,T,T,T,T,T,T,T,T,F,F,F,F,F,F,F,F,F,F,F,F,F,F,F,F,F,F,F,F] rfl rfl HT_.out ?_
                refine one_ (i := 25) (N := some 60) #[T,T,T,T,T,T,T,T,T,T,T,T,T,T,T,T,T,T,T,T,T,T,T,T,T,T,F,F,F,F,F,F,F,F,F,F,F,F,F,F,F,F,F,F,F] rfl rfl (one_of HT_.out (by kernel_rfl)) (by decide) (fun K hK => ?_)
                refine goes_ Try.func45 (by kernel_rfl) rfl #[.int .i64 ((rd_T66 l0_2 x3_2).f1), .int .i64 0, .int .i64 (wrap64 (a0_0 - 1))] (by rfl) rfl rfl (by (try simp only [List.map_toArray, List.map_cons, List.map_nil]); first | done | rfl | (simp only [List.length_drop, List.length_take]; rfl)) ?_
                with_reducible refine (spec_l01In.calls ((rd_T66 l0_2 x3_2).f1) 0 (wrap64 (a0_0 - 1)) false _ A40.out).mono ?_
                rintro e w' ⟨rfl, ⟨nd, rfl⟩⟩
                refine ⟨_, rfl, ?_⟩
                refine hK.out _ _ ⟨(blk_cell BK132.out 0).trans rfl, (blk_cell BK132.out 1).trans rfl, (blk_cell BK132.out 2).trans rfl, (blk_cell BK132.out 3).trans rfl, (blk_cell BK128.out 0).trans rfl, (blk_cell BK128.out 1).trans rfl, (blk_cell BK128.out 2).trans rfl⟩ (fun hHeld => ?_)
                clear hK K
                refine norm_ (a' := ?_) ?_ ?_
                rotate_left
                · show Act.put _ (some 60) _ = _
                  simp only [Act.put, List.setIfInBounds_toArray, List.set_cons_zero, List.set_cons_succ, i64_w, i32_w]
                  rfl
                refine pU 26 (some 61) #[T,T,T,T,T,T,T,T,T,T,T,T,T,T,T,T,T,T,T,T,T,T,T,T,T,T,T,F,F,F,F,F,F,F,F,F,F,F,F,F,F,F,F,F,F] rfl rfl HT_.out ?_
                refine pU 27 (some 62) #[T,T,T,T,T,T,T,T,T,T,T,T,T,T,T,T,T,T,T,T,T,T,T,T,T,T,T,T,F,F,F,F,F,F,F,F,F,F,F,F,F,F,F,F,F] rfl rfl HT_.out ?_
                refine pU 28 (some 63) #[T,T,T,T,T,T,T,T,T,T,T,T,T,T,T,T,T,T,T,T,T,T,T,T,T,T,T,T,T,F,F,F,F,F,F,F,F,F,F,F,F,F,F,F,F] rfl rfl HT_.out ?_
                refine pV 29 (some 64) #[T,T,T,T,T,T,T,T,T,T,T,T,T,T,T,T,T,T,T,T,T,T,T,T,T,T,T,T,T,T,F,F,F,F,F,F,F,F,F,F,F,F,F,F,F] rfl rfl HT_.out ?_
                refine pV 30 (some 65) #[T,T,T,T,T,T,T,T,T,T,T,T,T,T,T,T,T,T,T,T,T,T,T,T,T,T,T,T,T,T,T,F,F,F,F,F,F,F,F,F,F,F,F,F,F] rfl rfl HT_.out ?_
                refine pV 31 (some 66) #[T,T,T,T,T,T,T,T,T,T,T,T,T,T,T,T,T,T,T,T,T,T,T,T,T,T,T,T,T,T,T,T,F,F,F,F,F,F,F,F,F,F,F,F,F] rfl rfl HT_.out ?_
                refine pV 32 (some 67) #[T,T,T,T,T,T,T,T,T,T,T,T,T,T,T,T,T,T,T,T,T,T,T,T,T,T,T,T,T,T,T,T,T,F,F,F,F,F,F,F,F,F,F,F,F] rfl rfl HT_.out ?_
                refine pV 33 (some 68) #[T,T,T,T,T,T,T,T,T,T,T,T,T,T,T,T,T,T,T,T,T,T,T,T,T,T,T,T,T,T,T,T,T,T,F,F,F,F,F,F,F,F,F,F,F] rfl rfl HT_.out ?_
                refine pV 34 (some 69) #[T,T,T,T,T,T,T,T,T,T,T,T,T,T,T,T,T,T,T,T,T,T,T,T,T,T,T,T,T,T,T,T,T,T,T,F,F,F,F,F,F,F,F,F,F] rfl rfl HT_.out ?_
                refine pU 35 (some 70) #[T,T,T,T,T,T,T,T,T,T,T,T,T,T,T,T,T,T,T,T,T,T,T,T,T,T,T,T,T,T,T,T,T,T,T,T,F,F,F,F,F,F,F,F,F] rfl rfl HT_.out ?_
                refine pU 36 (some 71) #[T,T,T,T,T,T,T,T,T,T,T,T,T,T,T,T,T,T,T,T,T,T,T,T,T,T,T,T,T,T,T,T,T,T,T,T,T,F,F,F,F,F,F,F,F] rfl rfl HT_.out ?_
                refine pV 37 (some 72) #[T,T,T,T,T,T,T,T,T,T,T,T,T,T,T,T,T,T,T,T,T,T,T,T,T,T,T,T,T,T,T,T,T,T,T,T,T,T,F,F,F,F,F,F,F] rfl rfl HT_.out ?_
                refine pV 38 (some 73) #[T,T,T,T,T,T,T,T,T,T,T,T,T,T,T,T,T,T,T,T,T,T,T,T,T,T,T,T,T,T,T,T,T,T,T,T,T,T,T,F,F,F,F,F,F] rfl rfl HT_.out ?_
                refine pV 39 (some 74) #[T,T,T,T,T,T,T,T,T,T,T,T,T,T,T,T,T,T,T,T,T,T,T,T,T,T,T,T,T,T,T,T,T,T,T,T,T,T,T,T,F,F,F,F,F] rfl rfl HT_.out ?_
                refine pV 40 (some 75) #[T,T,T,T,T,T,T,T,T,T,T,T,T,T,T,T,T,T,T,T,T,T,T,T,T,T,T,T,T,T,T,T,T,T,T,T,T,T,T,T,T,F,F,F,F] rfl rfl HT_.out ?_
                refine pV 41 (some 76) #[T,T,T,T,T,T,T,T,T,T,T,T,T,T,T,T,T,T,T,T,T,T,T,T,T,T,T,T,T,T,T,T,T,T,T,T,T,T,T,T,T,T,F,F,F] rfl rfl HT_.out ?_
                refine pV 42 (some 77) #[T,T,T,T,T,T,T,T,T,T,T,T,T,T,T,T,T,T,T,T,T,T,T,T,T,T,T,T,T,T,T,T,T,T,T,T,T,T,T,T,T,T,T,F,F] rfl rfl HT_.out ?_
                refine pV 43 (some 78) #[T,T,T,T,T,T,T,T,T,T,T,T,T,T,T,T,T,T,T,T,T,T,T,T,T,T,T,T,T,T,T,T,T,T,T,T,T,T,T,T,T,T,T,T,F] rfl rfl HT_.out ?_
                refine pU 44 (some 79) #[T,T,T,T,T,T,T,T,T,T,T,T,T,T,T,T,T,T,T,T,T,T,T,T,T,T,T,T,T,T,T,T,T,T,T,T,T,T,T,T,T,T,T,T,T] rfl rfl HT_.out ?_
                refine done_ (done_of HT_.out (by kernel_rfl)) ?_
                try go_wp2
                go_meet
                case rel => exact ⟨_, (true), nS, H', ⟨by have := HJ1.out; have := HK2.out; first | omega | exact Nat.le_refl _⟩, ⟨by refine nE ?_; exact BK128.out⟩, ⟨by refine nE ?_; exact BK132.out⟩, ⟨nH2 HB.out GE128.out GE132.out⟩⟩
         case rest =>
          clear HC14; try clear p2; try clear c4; try clear p6; try clear c41; try clear c45
          obtain ⟨kq, x79_13, rfl, HA, HJ13, BK128, BK132, HB⟩ := hcut
          cases kq with
          | zero => exact absurd HA.out (by simp [spec_TrainOk.j2])
          | succ kj13 =>
           have H := HA.out; clear HA
           simp only [spec_TrainOk.j2] at H
           by_cases c51 : x79_13 = true
           · subst c51
             rw [if_pos rfl] at H; obtain rfl := Option.some.inj H; go_wp2; go_ret
             exact ⟨by first | rfl | (simp [errW_none, errW_some] <;> rfl) | (simp [*, errW_none, errW_some] <;> first | rfl | (simp [wrap64]; done)), nH2 HB.out GE128.out GE132.out⟩
           · replace c51 := Bool.eq_false_iff.mpr c51
             subst c51
             rw [if_neg nN] at H
             have H' := aM H
             clear H; go_wp2
             go_loopg [5] kj13 (fun kq v5 w' => ∃ (x5_4 : Int), v5 = .int .i64 x5_4 ∧ Aside0 (spec_TrainOk.l1 kq x3_2 x5_4 a0_0 a0_1 l0_2 ((rd_T66 l0_2 x3_2).f0) ((rd_T66 l0_2 x3_2).f1) ((rd_T66 l0_2 x3_2).f2) ((rd_T66 l0_2 x3_2).f3) = some r) ∧ Aside0 (kq ≤ kj13) ∧ Aside0 (w'.heap[gb128]? = some (.cells #[.int .i64 a0_0, .int .i64 a0_1, (.slice (some ad131) l0_2.length c0_2)] 29 (0, 0))) ∧ Aside0 (w'.heap[gb132]? = some (.cells #[.int .i64 ((rd_T66 l0_2 x3_2).f0), .int .i64 ((rd_T66 l0_2 x3_2).f1), .int .i64 ((rd_T66 l0_2 x3_2).f2), .int .i64 ((rd_T66 l0_2 x3_2).f3)] 66 (0, 0))) ∧ Aside0 (Below w.heap.size w w'))
             case atStart => exact ⟨(0), nS, H', ⟨Nat.le_refl _⟩, ⟨by refine nE ?_; exact BK128.out⟩, ⟨by refine nE ?_; exact BK132.out⟩, ⟨nH2 HB.out GE128.out GE132.out⟩⟩
             case round =>
              clear H'
              try clear p2; try clear c4; try clear c5; try clear p6; try clear c41; try clear c45; try clear c51; try clear p2; try clear p6
              obtain ⟨x5_4, rfl, HA, HK4, BK128, BK132, HB⟩ := hrel
              cases gk with
              | zero => exact absurd HA.out (by simp [spec_TrainOk.l1])
              | succ k4 =>
               have H := HA.out; clear HA
               simp only [spec_TrainOk.l1] at H
               by_cases c52 : x5_4 < x3_2
               · rw [if_pos c52] at H
                 have c52b0 : decide (x5_4 < x3_2) = true := decide_eq_true c52
                 clear c52
                 by_cases c53 : 0 ≤ x5_4
                 rotate_left
                 · (rw [if_neg c53] at H; exact absurd H (by simp))
                 rw [if_pos c53] at H
                 have c53b0 : decide (0 ≤ x5_4) = true := decide_eq_true c53
                 clear c53
                 by_cases c54 : x5_4 < (l0_2.length : Int)
                 rotate_left
                 · (rw [if_neg c54] at H; exact absurd H (by simp))
                 rw [if_pos c54] at H
                 have c54b0 : decide (x5_4 < (l0_2.length : Int)) = true := decide_eq_true c54
                 clear c54
                 by_cases c55 : ((rd_T66 l0_2 x5_4).f1) = ((rd_T66 l0_2 x3_2).f1)
                 · rw [if_pos c55] at H
                   have c55b0 : (((rd_T66 l0_2 x5_4).f1) == ((rd_T66 l0_2 x3_2).f1)) = true := beq_iff_eq.mpr c55
                   have c55b1 : (((rd_T66 l0_2 x5_4).f1) != ((rd_T66 l0_2 x3_2).f1)) = false := bne_eq_false_iff_eq.mpr c55
                   clear c55
                   by_cases c56 : ((rd_T66 l0_2 x5_4).f2) < ((rd_T66 l0_2 x3_2).f3)
                   · rw [if_pos c56] at H
                     have c56b0 : decide (((rd_T66 l0_2 x5_4).f2) < ((rd_T66 l0_2 x3_2).f3)) = true := decide_eq_true c56
                     clear c56
                     by_cases c57 : ((rd_T66 l0_2 x3_2).f2) < ((rd_T66 l0_2 x5_4).f3)
                     · rw [if_pos c57] at H
                       have c57b0 : decide (((rd_T66 l0_2 x3_2).f2) < ((rd_T66 l0_2 x5_4).f3)) = true := decide_eq_true c57
                       clear c57; obtain rfl := Option.some.inj H; have hnb58 := NB128_132.out; have hnc58 := NB132_128.out
                       obtain ⟨hcz59_0, hcz59_1, hcz59_2, hfz59_0, hfz59_1, hfz59_2⟩ := nK3 BK128.out
                       have p140 : 0 ≤ (x5_4 : Int) := of_decide_eq_true nQ
                       have q140 : x5_4 < (l0_2.length : Int) := of_decide_eq_true nQ
                       obtain ⟨ad140, e140, hx140_0, hx140_1, hx140_2, hx140_3⟩ := at_T66 HR0_2.out x5_4 p140 q140
                       obtain rfl : ad131 = ad140 := (by injection e140)
                       replace hx140_0 := (HB.out.cell (World.block_lt_of_cell? w _ hx140_0)).trans hx140_0
                       replace hx140_1 := (HB.out.cell (World.block_lt_of_cell? w _ hx140_1)).trans hx140_1
                       replace hx140_2 := (HB.out.cell (World.block_lt_of_cell? w _ hx140_2)).trans hx140_2
                       replace hx140_3 := (HB.out.cell (World.block_lt_of_cell? w _ hx140_3)).trans hx140_3
                       replace p140 := eq_true p140; replace q140 := eq_true q140
                       go_wp2_with (first | ((with_reducible refine gate_dst (N := 6) rfl ?_); (try (refine gate_guard (by rfl) ?_; dsimp only)); refine box_event ?hg (N := 6) ?hd (cs := #[.int .i64 0, .int .i64 0, .int .i64 0, .int .i64 0]) (t := 66) ?hr ?_; (case hd => rfl); (case hg => rfl); (case hr => first | (go_simp; done) | (go_simp; rfl)); intro gb141 hg w60 hbox hb; have n_ := aA (nBB BK128.out hb) <| aA (nBB BK132.out hb) <| aA (below_step (nH2 HB.out GE128.out GE132.out) hb) <| aA (hbox) <| aA (bS hg (nH2 HB.out GE128.out GE132.out)) <| aA (bS hg (nH2 HB.out GE128.out GE132.out)) <| aA (nBL BK128.out hg) <| aA (by rw [hg]; exact Nat.ne_of_gt (blk_lt (g := gb128) (o := .cells #[.int .i64 a0_0, .int .i64 a0_1, .slice (some ad131) l0_2.length c0_2] 29 (0, 0)) (nB BK128.out)) : gb141 ≠ gb128) <| aA (nBL BK132.out hg) <| aM (by rw [hg]; exact Nat.ne_of_gt (blk_lt (g := gb132) (o := .cells #[.int .i64 ((rd_T66 l0_2 x3_2).f0), .int .i64 ((rd_T66 l0_2 x3_2).f1), .int .i64 ((rd_T66 l0_2 x3_2).f2), .int .i64 ((rd_T66 l0_2 x3_2).f3)] 66 (0, 0)) (nB BK132.out)) : gb141 ≠ gb132); clear BK128 BK132 HB; obtain ⟨BK128, BK132, HB, BK141, GW141, GE141, NB128_141, NB141_128, NB132_141, NB141_132⟩ := n_; clear hb hbox hg; have hnb61 := NB141_128.out; have hnc61 := NB128_141.out; have hnb62 := NB141_132.out; have hnc62 := NB132_141.out; obtain ⟨hcz63_0, hcz63_1, hcz63_2, hcz63_3, hfz63_0, hfz63_1, hfz63_2, hfz63_3⟩ := nK4 BK141.out; obtain ⟨hcz64_0, hcz64_1, hcz64_2, hcz64_3, hfz64_0, hfz64_1, hfz64_2, hfz64_3⟩ := nK4 BK132.out))
                       go_ret
                       exact ⟨by first | rfl | (simp [errW_none, errW_some] <;> rfl) | (simp [*, errW_none, errW_some] <;> first | rfl | (simp [wrap64]; done)), nH3 HB.out GE128.out GE132.out GE141.out⟩
                     · rw [if_neg c57] at H
                       have c57b0 : decide (((rd_T66 l0_2 x3_2).f2) < ((rd_T66 l0_2 x5_4).f3)) = false := decide_eq_false c57
                       clear c57
                       have H' := aM H
                       clear H; have hnb65 := NB128_132.out; have hnc65 := NB132_128.out
                       obtain ⟨hcz66_0, hcz66_1, hcz66_2, hfz66_0, hfz66_1, hfz66_2⟩ := nK3 BK128.out
                       have p140 : 0 ≤ (x5_4 : Int) := of_decide_eq_true nQ
                       have q140 : x5_4 < (l0_2.length : Int) := of_decide_eq_true nQ
                       obtain ⟨ad140, e140, hx140_0, hx140_1, hx140_2, hx140_3⟩ := at_T66 HR0_2.out x5_4 p140 q140
                       obtain rfl : ad131 = ad140 := (by injection e140)
                       replace hx140_0 := (HB.out.cell (World.block_lt_of_cell? w _ hx140_0)).trans hx140_0
                       replace hx140_1 := (HB.out.cell (World.block_lt_of_cell? w _ hx140_1)).trans hx140_1
                       replace hx140_2 := (HB.out.cell (World.block_lt_of_cell? w _ hx140_2)).trans hx140_2
                       replace hx140_3 := (HB.out.cell (World.block_lt_of_cell? w _ hx140_3)).trans hx140_3
                       replace p140 := eq_true p140; replace q140 := eq_true q140
                       go_wp2_with (first | ((with_reducible refine gate_dst (N := 6) rfl ?_); (try (refine gate_guard (by rfl) ?_; dsimp only)); refine box_event ?hg (N := 6) ?hd (cs := #[.int .i64 0, .int .i64 0, .int .i64 0, .int .i64 0]) (t := 66) ?hr ?_; (case hd => rfl); (case hg => rfl); (case hr => first | (go_simp; done) | (go_simp; rfl)); intro gb141 hg w67 hbox hb; have n_ := aA (nBB BK128.out hb) <| aA (nBB BK132.out hb) <| aA (below_step (nH2 HB.out GE128.out GE132.out) hb) <| aA (hbox) <| aA (bS hg (nH2 HB.out GE128.out GE132.out)) <| aA (bS hg (nH2 HB.out GE128.out GE132.out)) <| aA (nBL BK128.out hg) <| aA (by rw [hg]; exact Nat.ne_of_gt (blk_lt (g := gb128) (o := .cells #[.int .i64 a0_0, .int .i64 a0_1, .slice (some ad131) l0_2.length c0_2] 29 (0, 0)) (nB BK128.out)) : gb141 ≠ gb128) <| aA (nBL BK132.out hg) <| aM (by rw [hg]; exact Nat.ne_of_gt (blk_lt (g := gb132) (o := .cells #[.int .i64 ((rd_T66 l0_2 x3_2).f0), .int .i64 ((rd_T66 l0_2 x3_2).f1), .int .i64 ((rd_T66 l0_2 x3_2).f2), .int .i64 ((rd_T66 l0_2 x3_2).f3)] 66 (0, 0)) (nB BK132.out)) : gb141 ≠ gb132); clear BK128 BK132 HB; obtain ⟨BK128, BK132, HB, BK141, GW141, GE141, NB128_141, NB141_128, NB132_141, NB141_132⟩ := n_; clear hb hbox hg; have hnb68 := NB141_128.out; have hnc68 := NB128_141.out; have hnb69 := NB141_132.out; have hnc69 := NB132_141.out; obtain ⟨hcz70_0, hcz70_1, hcz70_2, hcz70_3, hfz70_0, hfz70_1, hfz70_2, hfz70_3⟩ := nK4 BK141.out; obtain ⟨hcz71_0, hcz71_1, hcz71_2, hcz71_3, hfz71_0, hfz71_1, hfz71_2, hfz71_3⟩ := nK4 BK132.out))
                       go_roundg k4
                       case measure => have := HJ1.out; have := HK2.out; have := HJ13.out; have := HK4.out; omega
                       case rel => exact ⟨(wrap64 (x5_4 + 1)), nS, H', ⟨by have := HJ1.out; have := HK2.out; have := HJ13.out; have := HK4.out; omega⟩, ⟨by refine nE ?_; refine blk_far ?_ NB128_141.out _; refine nE ?_; refine blk_far ?_ NB128_141.out _; refine nE ?_; refine blk_far ?_ NB128_141.out _; refine nE ?_; refine blk_far ?_ NB128_141.out _; refine nE ?_; exact BK128.out⟩, ⟨by refine nE ?_; refine blk_far ?_ NB132_141.out _; refine nE ?_; refine blk_far ?_ NB132_141.out _; refine nE ?_; refine blk_far ?_ NB132_141.out _; refine nE ?_; refine blk_far ?_ NB132_141.out _; refine nE ?_; exact BK132.out⟩, ⟨nH3 HB.out GE128.out GE132.out GE141.out⟩⟩
                   · rw [if_neg c56] at H
                     have c56b0 : decide (((rd_T66 l0_2 x5_4).f2) < ((rd_T66 l0_2 x3_2).f3)) = false := decide_eq_false c56
                     clear c56
                     have H' := aM H
                     clear H; have hnb72 := NB128_132.out; have hnc72 := NB132_128.out
                     obtain ⟨hcz73_0, hcz73_1, hcz73_2, hfz73_0, hfz73_1, hfz73_2⟩ := nK3 BK128.out
                     have p140 : 0 ≤ (x5_4 : Int) := of_decide_eq_true nQ
                     have q140 : x5_4 < (l0_2.length : Int) := of_decide_eq_true nQ
                     obtain ⟨ad140, e140, hx140_0, hx140_1, hx140_2, hx140_3⟩ := at_T66 HR0_2.out x5_4 p140 q140
                     obtain rfl : ad131 = ad140 := (by injection e140)
                     replace hx140_0 := (HB.out.cell (World.block_lt_of_cell? w _ hx140_0)).trans hx140_0
                     replace hx140_1 := (HB.out.cell (World.block_lt_of_cell? w _ hx140_1)).trans hx140_1
                     replace hx140_2 := (HB.out.cell (World.block_lt_of_cell? w _ hx140_2)).trans hx140_2
                     replace hx140_3 := (HB.out.cell (World.block_lt_of_cell? w _ hx140_3)).trans hx140_3
                     replace p140 := eq_true p140; replace q140 := eq_true q140
                     go_wp2_with (first | ((with_reducible refine gate_dst (N := 6) rfl ?_); (try (refine gate_guard (by rfl) ?_; dsimp only)); refine box_event ?hg (N := 6) ?hd (cs := #[.int .i64 0, .int .i64 0, .int .i64 0, .int .i64 0]) (t := 66) ?hr ?_; (case hd => rfl); (case hg => rfl); (case hr => first | (go_simp; done) | (go_simp; rfl)); intro gb141 hg w74 hbox hb; have n_ := aA (nBB BK128.out hb) <| aA (nBB BK132.out hb) <| aA (below_step (nH2 HB.out GE128.out GE132.out) hb) <| aA (hbox) <| aA (bS hg (nH2 HB.out GE128.out GE132.out)) <| aA (bS hg (nH2 HB.out GE128.out GE132.out)) <| aA (nBL BK128.out hg) <| aA (by rw [hg]; exact Nat.ne_of_gt (blk_lt (g := gb128) (o := .cells #[.int .i64 a0_0, .int .i64 a0_1, .slice (some ad131) l0_2.length c0_2] 29 (0, 0)) (nB BK128.out)) : gb141 ≠ gb128) <| aA (nBL BK132.out hg) <| aM (by rw [hg]; exact Nat.ne_of_gt (blk_lt (g := gb132) (o := .cells #[.int .i64 ((rd_T66 l0_2 x3_2).f0), .int .i64 ((rd_T66 l0_2 x3_2).f1), .int .i64 ((rd_T66 l0_2 x3_2).f2), .int .i64 ((rd_T66 l0_2 x3_2).f3)] 66 (0, 0)) (nB BK132.out)) : gb141 ≠ gb132); clear BK128 BK132 HB; obtain ⟨BK128, BK132, HB, BK141, GW141, GE141, NB128_141, NB141_128, NB132_141, NB141_132⟩ := n_; clear hb hbox hg; have hnb75 := NB141_128.out; have hnc75 := NB128_141.out; have hnb76 := NB141_132.out; have hnc76 := NB132_141.out; obtain ⟨hcz77_0, hcz77_1, hcz77_2, hcz77_3, hfz77_0, hfz77_1, hfz77_2, hfz77_3⟩ := nK4 BK141.out; obtain ⟨hcz78_0, hcz78_1, hcz78_2, hcz78_3, hfz78_0, hfz78_1, hfz78_2, hfz78_3⟩ := nK4 BK132.out))
                     go_roundg k4
                     case measure => have := HJ1.out; have := HK2.out; have := HJ13.out; have := HK4.out; omega
                     case rel => exact ⟨(wrap64 (x5_4 + 1)), nS, H', ⟨by have := HJ1.out; have := HK2.out; have := HJ13.out; have := HK4.out; omega⟩, ⟨by refine nE ?_; refine blk_far ?_ NB128_141.out _; refine nE ?_; refine blk_far ?_ NB128_141.out _; refine nE ?_; refine blk_far ?_ NB128_141.out _; refine nE ?_; refine blk_far ?_ NB128_141.out _; refine nE ?_; exact BK128.out⟩, ⟨by refine nE ?_; refine blk_far ?_ NB132_141.out _; refine nE ?_; refine blk_far ?_ NB132_141.out _; refine nE ?_; refine blk_far ?_ NB132_141.out _; refine nE ?_; refine blk_far ?_ NB132_141.out _; refine nE ?_; exact BK132.out⟩, ⟨nH3 HB.out GE128.out GE132.out GE141.out⟩⟩
                 · rw [if_neg c55] at H
                   have c55b0 : (((rd_T66 l0_2 x5_4).f1) == ((rd_T66 l0_2 x3_2).f1)) = false := beq_eq_false_iff_ne.mpr c55
                   have c55b1 : (((rd_T66 l0_2 x5_4).f1) != ((rd_T66 l0_2 x3_2).f1)) = true := bne_iff_ne.mpr c55
                   have H' := aM H
                   clear H; have hnb79 := NB128_132.out; have hnc79 := NB132_128.out
                   obtain ⟨hcz80_0, hcz80_1, hcz80_2, hfz80_0, hfz80_1, hfz80_2⟩ := nK3 BK128.out
                   have p140 : 0 ≤ (x5_4 : Int) := of_decide_eq_true nQ
                   have q140 : x5_4 < (l0_2.length : Int) := of_decide_eq_true nQ
                   obtain ⟨ad140, e140, hx140_0, hx140_1, hx140_2, hx140_3⟩ := at_T66 HR0_2.out x5_4 p140 q140
                   obtain rfl : ad131 = ad140 := (by injection e140)
                   replace hx140_0 := (HB.out.cell (World.block_lt_of_cell? w _ hx140_0)).trans hx140_0
                   replace hx140_1 := (HB.out.cell (World.block_lt_of_cell? w _ hx140_1)).trans hx140_1
                   replace hx140_2 := (HB.out.cell (World.block_lt_of_cell? w _ hx140_2)).trans hx140_2
                   replace hx140_3 := (HB.out.cell (World.block_lt_of_cell? w _ hx140_3)).trans hx140_3
                   replace p140 := eq_true p140; replace q140 := eq_true q140
                   go_wp2_with (first | ((with_reducible refine gate_dst (N := 6) rfl ?_); (try (refine gate_guard (by rfl) ?_; dsimp only)); refine box_event ?hg (N := 6) ?hd (cs := #[.int .i64 0, .int .i64 0, .int .i64 0, .int .i64 0]) (t := 66) ?hr ?_; (case hd => rfl); (case hg => rfl); (case hr => first | (go_simp; done) | (go_simp; rfl)); intro gb141 hg w81 hbox hb; have n_ := aA (nBB BK128.out hb) <| aA (nBB BK132.out hb) <| aA (below_step (nH2 HB.out GE128.out GE132.out) hb) <| aA (hbox) <| aA (bS hg (nH2 HB.out GE128.out GE132.out)) <| aA (bS hg (nH2 HB.out GE128.out GE132.out)) <| aA (nBL BK128.out hg) <| aA (by rw [hg]; exact Nat.ne_of_gt (blk_lt (g := gb128) (o := .cells #[.int .i64 a0_0, .int .i64 a0_1, .slice (some ad131) l0_2.length c0_2] 29 (0, 0)) (nB BK128.out)) : gb141 ≠ gb128) <| aA (nBL BK132.out hg) <| aM (by rw [hg]; exact Nat.ne_of_gt (blk_lt (g := gb132) (o := .cells #[.int .i64 ((rd_T66 l0_2 x3_2).f0), .int .i64 ((rd_T66 l0_2 x3_2).f1), .int .i64 ((rd_T66 l0_2 x3_2).f2), .int .i64 ((rd_T66 l0_2 x3_2).f3)] 66 (0, 0)) (nB BK132.out)) : gb141 ≠ gb132); clear BK128 BK132 HB; obtain ⟨BK128, BK132, HB, BK141, GW141, GE141, NB128_141, NB141_128, NB132_141, NB141_132⟩ := n_; clear hb hbox hg; have hnb82 := NB141_128.out; have hnc82 := NB128_141.out; have hnb83 := NB141_132.out; have hnc83 := NB132_141.out; obtain ⟨hcz84_0, hcz84_1, hcz84_2, hcz84_3, hfz84_0, hfz84_1, hfz84_2, hfz84_3⟩ := nK4 BK141.out; obtain ⟨hcz85_0, hcz85_1, hcz85_2, hcz85_3, hfz85_0, hfz85_1, hfz85_2, hfz85_3⟩ := nK4 BK132.out))
                   go_roundg k4
                   case measure => have := HJ1.out; have := HK2.out; have := HJ13.out; have := HK4.out; omega
                   case rel => exact ⟨(wrap64 (x5_4 + 1)), nS, H', ⟨by have := HJ1.out; have := HK2.out; have := HJ13.out; have := HK4.out; omega⟩, ⟨by refine nE ?_; refine blk_far ?_ NB128_141.out _; refine nE ?_; refine blk_far ?_ NB128_141.out _; refine nE ?_; refine blk_far ?_ NB128_141.out _; refine nE ?_; refine blk_far ?_ NB128_141.out _; refine nE ?_; exact BK128.out⟩, ⟨by refine nE ?_; refine blk_far ?_ NB132_141.out _; refine nE ?_; refine blk_far ?_ NB132_141.out _; refine nE ?_; refine blk_far ?_ NB132_141.out _; refine nE ?_; refine blk_far ?_ NB132_141.out _; refine nE ?_; exact BK132.out⟩, ⟨nH3 HB.out GE128.out GE132.out GE141.out⟩⟩
               · rw [if_neg c52] at H
                 have c52b0 : decide (x5_4 < x3_2) = false := decide_eq_false c52
                 clear c52
                 have H' := aM H
                 clear H; go_wp2
                 go_roundg k4
                 case measure => have := HJ1.out; have := HK2.out; have := HJ13.out; have := HK4.out; omega
                 case rel => exact ⟨(wrap64 (x3_2 + 1)), nS, H', ⟨by have := HJ1.out; have := HK2.out; have := HJ13.out; have := HK4.out; omega⟩, ⟨by refine nE ?_; exact BK128.out⟩, ⟨nH2 HB.out GE128.out GE132.out⟩⟩
       · rw [if_neg c12] at H
         have c12b0 : decide (x3_2 < (l0_2.length : Int)) = false := decide_eq_false c12
         clear c12; obtain rfl := Option.some.inj H
         obtain ⟨hcz86_0, hcz86_1, hcz86_2, hfz86_0, hfz86_1, hfz86_2⟩ := nK3 BK128.out
         go_wp2; go_ret
         exact ⟨by first | rfl | (simp [errW_none, errW_some] <;> rfl) | (simp [*, errW_none, errW_some] <;> first | rfl | (simp [wrap64]; done)), nH1 HB.out GE128.out⟩
end Go.Proofs.Ytklikbjlfaednaa.P

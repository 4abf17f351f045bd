/- Contracts of the functions of the program, each one with its plain Lean function; written by a program of the session out of the translation. -/
import Derived.Test.YtdpjoblnjjkbfaaNb
import Derived.Deep.RegionHeld3
import Derived.Test.YtdpjoblnjjkbfaaPx0
import Derived.Test.YtdpjoblnjjkbfaaPx15
namespace Go.Proofs.Ytdpjoblnjjkbfaa.P
open Go.RowKit Go.Proofs.YtdpjoblnjjkbfaaW.PrintWords Go.Proofs.YtdpjoblnjjkbfaaW.PrintLast Go.Proofs.YtdpjoblnjjkbfaaW.PrintMore
attribute [local go_sem] max2_int min2_int max_two min_two max_three min_three max_four min_four   -- for this text's walks alone
set_option linter.unusedVariables false
set_option linter.unusedSimpArgs false
theorem ks_all {P1 P2 P3 : Value} {p1 p2 p3 : Addr} {w9 w' : World} (h1 : w9.cell? p1 = some P1) (h2 : w9.cell? p2 = some P2) (h3 : w9.cell? p3 = some P3) (hb : Below w9.heap.size w9 w') : w'.cell? p1 = some P1 ∧ w'.cell? p2 = some P2 ∧ w'.cell? p3 = some P3 ∧ Below w9.heap.size w9 w' :=
 ⟨(hb.cell (World.block_lt_of_cell? _ _ h1)).trans h1, (hb.cell (World.block_lt_of_cell? _ _ h2)).trans h2, (hb.cell (World.block_lt_of_cell? _ _ h3)).trans h3, hb⟩
theorem ks_b {P1 P2 P3 : Prop} {w9 w1 : World} (h : P1 ∧ P2 ∧ P3 ∧ Below w9.heap.size w9 w1) : Below w9.heap.size w9 w1 := h.2.2.2
theorem ks_step {P1 P2 P3 : Prop} {w9 w1 w2 : World} (hb : Below w1.heap.size w1 w2) (h : P1 ∧ P2 ∧ P3 ∧ Below w9.heap.size w9 w1) : Below w9.heap.size w9 w2 := below_step h.2.2.2 hb
theorem wpAnyH_take_d {P : Program} {md : Region.Mode} {ops : Array Oper} {Q : Exit → Act → World → Prop} {S : World → Prop} {i : Nat} {oi : Oper} {v : Value} {fuel : Nat} {listed : Array Bool} {a : Act} {w : World} (d : Option Tmp) (hi : ops[i]? = some oi) (hd : oi.dst = d)
 (hs : Region.noSelect ops = true) (hf : Region.free md ops listed i = true) (hr : (Region.ready md ops listed).contains i = true)
 (hQ : ∀ c a w, Q (.panic c) (a.put oi.dst v) w → Q (.panic c) a w) (hy : YieldsIf P ops S oi v a) (hS : S w)
 (h : wpAnyH P md ops Q S fuel (listed.setIfInBounds i true) (a.put d v) w) : wpAnyH P md ops Q S (fuel + 1) listed a w := by
 subst hd
 exact wpAnyH_take hi hs hf hr hQ hy hS h
/-! ### spec_l12First: function 47 -/
theorem spec_l12First.mono_l : ∀ k, (∀ y0 y1 y2 y3 y4 y5 y6 y7, LeO (spec_l12First.l0 k y0 y1 y2 y3 y4 y5 y6 y7) (spec_l12First.l0 (k + 1) y0 y1 y2 y3 y4 y5 y6 y7)) ∧ (∀ y0 y1 y2 y3 y4 y5 y6 y7 y8 y9, LeO (spec_l12First.l1 k y0 y1 y2 y3 y4 y5 y6 y7 y8 y9) (spec_l12First.l1 (k + 1) y0 y1 y2 y3 y4 y5 y6 y7 y8 y9)) ∧ (∀ y0 y1 y2 y3 y4 y5 y6 y7 y8 y9 y10, LeO (spec_l12First.j2 k y0 y1 y2 y3 y4 y5 y6 y7 y8 y9 y10) (spec_l12First.j2 (k + 1) y0 y1 y2 y3 y4 y5 y6 y7 y8 y9 y10)) ∧ (∀ y0 y1 y2 y3 y4 y5 y6 y7 y8 y9 y10, LeO (spec_l12First.l2 k y0 y1 y2 y3 y4 y5 y6 y7 y8 y9 y10) (spec_l12First.l2 (k + 1) y0 y1 y2 y3 y4 y5 y6 y7 y8 y9 y10)) ∧ (∀ y0 y1 y2 y3 y4 y5 y6 y7 y8 y9 y10 y11, LeO (spec_l12First.j4 k y0 y1 y2 y3 y4 y5 y6 y7 y8 y9 y10 y11) (spec_l12First.j4 (k + 1) y0 y1 y2 y3 y4 y5 y6 y7 y8 y9 y10 y11))
 | 0 => ⟨fun _ _ _ _ _ _ _ _ r h => by simp [spec_l12First.l0] at h, fun _ _ _ _ _ _ _ _ _ _ r h => by simp [spec_l12First.l1] at h, fun _ _ _ _ _ _ _ _ _ _ _ r h => by simp [spec_l12First.j2] at h, fun _ _ _ _ _ _ _ _ _ _ _ r h => by simp [spec_l12First.l2] at h, fun _ _ _ _ _ _ _ _ _ _ _ _ r h => by simp [spec_l12First.j4] at h⟩
 | k + 1 => by
  obtain ⟨ih0, ih1, ih2, ih3, ih4⟩ := spec_l12First.mono_l k
  refine ⟨?_, ?_, ?_, ?_, ?_⟩
  · intro y0 y1 y2 y3 y4 y5 y6 y7
    unfold spec_l12First.l0
    repeat' first
    | (with_reducible exact ih0 _ _ _ _ _ _ _ _)
    | (with_reducible exact ih1 _ _ _ _ _ _ _ _ _ _)
    | (with_reducible exact ih2 _ _ _ _ _ _ _ _ _ _ _)
    | (with_reducible exact ih3 _ _ _ _ _ _ _ _ _ _ _)
    | (with_reducible exact ih4 _ _ _ _ _ _ _ _ _ _ _ _)
    | (with_reducible exact spec_l12Reach.mono _ _ _ _ _ _)
    | (with_reducible exact LeO.refl _)
    | (with_reducible exact LeO.none _)
    | (with_reducible refine LeO.ite ?_ ?_)
    | (with_reducible refine LeO.bind ?_ (fun _ => ?_))
    | exact ih0 _ _ _ _ _ _ _ _
    | exact ih1 _ _ _ _ _ _ _ _ _ _
    | exact ih2 _ _ _ _ _ _ _ _ _ _ _
    | exact ih3 _ _ _ _ _ _ _ _ _ _ _
    | exact ih4 _ _ _ _ _ _ _ _ _ _ _ _
    | exact spec_l12Reach.mono _ _ _ _ _ _
    | exact LeO.none _
    | refine LeO.ite ?_ ?_
    | refine LeO.bind ?_ (fun _ => ?_)
  · intro y0 y1 y2 y3 y4 y5 y6 y7 y8 y9
    unfold spec_l12First.l1
    repeat' first
    | (with_reducible exact ih0 _ _ _ _ _ _ _ _)
    | (with_reducible exact ih1 _ _ _ _ _ _ _ _ _ _)
    | (with_reducible exact ih2 _ _ _ _ _ _ _ _ _ _ _)
    | (with_reducible exact ih3 _ _ _ _ _ _ _ _ _ _ _)
    | (with_reducible exact ih4 _ _ _ _ _ _ _ _ _ _ _ _)
    | (with_reducible exact spec_l12Reach.mono _ _ _ _ _ _)
    | (with_reducible exact LeO.refl _)
    | (with_reducible exact LeO.none _)
    | (with_reducible refine LeO.ite ?_ ?_)
    | (with_reducible refine LeO.bind ?_ (fun _ => ?_))
    | exact ih0 _ _ _ _ _ _ _ _
    | exact ih1 _ _ _ _ _ _ _ _ _ _
    | exact ih2 _ _ _ _ _ _ _ _ _ _ _
    | exact ih3 _ _ _ _ _ _ _ _ _ _ _
    | exact ih4 _ _ _ _ _ _ _ _ _ _ _ _
    | exact spec_l12Reach.mono _ _ _ _ _ _
    | exact LeO.none _
    | refine LeO.ite ?_ ?_
    | refine LeO.bind ?_ (fun _ => ?_)
  · intro y0 y1 y2 y3 y4 y5 y6 y7 y8 y9 y10
    unfold spec_l12First.j2
    repeat' first
    | (with_reducible exact ih0 _ _ _ _ _ _ _ _)
    | (with_reducible exact ih1 _ _ _ _ _ _ _ _ _ _)
    | (with_reducible exact ih2 _ _ _ _ _ _ _ _ _ _ _)
    | (with_reducible exact ih3 _ _ _ _ _ _ _ _ _ _ _)
    | (with_reducible exact ih4 _ _ _ _ _ _ _ _ _ _ _ _)
    | (with_reducible exact spec_l12Reach.mono _ _ _ _ _ _)
    | (with_reducible exact LeO.refl _)
    | (with_reducible exact LeO.none _)
    | (with_reducible refine LeO.ite ?_ ?_)
    | (with_reducible refine LeO.bind ?_ (fun _ => ?_))
    | exact ih0 _ _ _ _ _ _ _ _
    | exact ih1 _ _ _ _ _ _ _ _ _ _
    | exact ih2 _ _ _ _ _ _ _ _ _ _ _
    | exact ih3 _ _ _ _ _ _ _ _ _ _ _
    | exact ih4 _ _ _ _ _ _ _ _ _ _ _ _
    | exact spec_l12Reach.mono _ _ _ _ _ _
    | exact LeO.none _
    | refine LeO.ite ?_ ?_
    | refine LeO.bind ?_ (fun _ => ?_)
  · intro y0 y1 y2 y3 y4 y5 y6 y7 y8 y9 y10
    unfold spec_l12First.l2
    repeat' first
    | (with_reducible exact ih0 _ _ _ _ _ _ _ _)
    | (with_reducible exact ih1 _ _ _ _ _ _ _ _ _ _)
    | (with_reducible exact ih2 _ _ _ _ _ _ _ _ _ _ _)
    | (with_reducible exact ih3 _ _ _ _ _ _ _ _ _ _ _)
    | (with_reducible exact ih4 _ _ _ _ _ _ _ _ _ _ _ _)
    | (with_reducible exact spec_l12Reach.mono _ _ _ _ _ _)
    | (with_reducible exact LeO.refl _)
    | (with_reducible exact LeO.none _)
    | (with_reducible refine LeO.ite ?_ ?_)
    | (with_reducible refine LeO.bind ?_ (fun _ => ?_))
    | exact ih0 _ _ _ _ _ _ _ _
    | exact ih1 _ _ _ _ _ _ _ _ _ _
    | exact ih2 _ _ _ _ _ _ _ _ _ _ _
    | exact ih3 _ _ _ _ _ _ _ _ _ _ _
    | exact ih4 _ _ _ _ _ _ _ _ _ _ _ _
    | exact spec_l12Reach.mono _ _ _ _ _ _
    | exact LeO.none _
    | refine LeO.ite ?_ ?_
    | refine LeO.bind ?_ (fun _ => ?_)
  · intro y0 y1 y2 y3 y4 y5 y6 y7 y8 y9 y10 y11
    unfold spec_l12First.j4
    repeat' first
    | (with_reducible exact ih0 _ _ _ _ _ _ _ _)
    | (with_reducible exact ih1 _ _ _ _ _ _ _ _ _ _)
    | (with_reducible exact ih2 _ _ _ _ _ _ _ _ _ _ _)
    | (with_reducible exact ih3 _ _ _ _ _ _ _ _ _ _ _)
    | (with_reducible exact ih4 _ _ _ _ _ _ _ _ _ _ _ _)
    | (with_reducible exact spec_l12Reach.mono _ _ _ _ _ _)
    | (with_reducible exact LeO.refl _)
    | (with_reducible exact LeO.none _)
    | (with_reducible refine LeO.ite ?_ ?_)
    | (with_reducible refine LeO.bind ?_ (fun _ => ?_))
    | exact ih0 _ _ _ _ _ _ _ _
    | exact ih1 _ _ _ _ _ _ _ _ _ _
    | exact ih2 _ _ _ _ _ _ _ _ _ _ _
    | exact ih3 _ _ _ _ _ _ _ _ _ _ _
    | exact ih4 _ _ _ _ _ _ _ _ _ _ _ _
    | exact spec_l12Reach.mono _ _ _ _ _ _
    | exact LeO.none _
    | refine LeO.ite ?_ ?_
    | refine LeO.bind ?_ (fun _ => ?_)
theorem spec_l12First.mono : ∀ a0 a1 a2 a3 a4 a5 a6 k, LeO (spec_l12First.f k a0 a1 a2 a3 a4 a5 a6) (spec_l12First.f (k + 1) a0 a1 a2 a3 a4 a5 a6) := by
 intro a0 a1 a2 a3 a4 a5 a6 k
 obtain ⟨ih0, ih1, ih2, ih3, ih4⟩ := spec_l12First.mono_l k
 unfold spec_l12First.f
 repeat' first
  | (with_reducible exact ih0 _ _ _ _ _ _ _ _)
  | (with_reducible exact ih1 _ _ _ _ _ _ _ _ _ _)
  | (with_reducible exact ih2 _ _ _ _ _ _ _ _ _ _ _)
  | (with_reducible exact ih3 _ _ _ _ _ _ _ _ _ _ _)
  | (with_reducible exact ih4 _ _ _ _ _ _ _ _ _ _ _ _)
  | (with_reducible exact spec_l12Reach.mono _ _ _ _ _ _)
  | (with_reducible exact LeO.refl _)
  | (with_reducible exact LeO.none _)
  | (with_reducible refine LeO.ite ?_ ?_)
  | (with_reducible refine LeO.bind ?_ (fun _ => ?_))
  | exact ih0 _ _ _ _ _ _ _ _
  | exact ih1 _ _ _ _ _ _ _ _ _ _
  | exact ih2 _ _ _ _ _ _ _ _ _ _ _
  | exact ih3 _ _ _ _ _ _ _ _ _ _ _
  | exact ih4 _ _ _ _ _ _ _ _ _ _ _ _
  | exact spec_l12Reach.mono _ _ _ _ _ _
  | exact LeO.none _
  | refine LeO.ite ?_ ?_
  | refine LeO.bind ?_ (fun _ => ?_)
def spec_l12First.T15 : Bool × List (List Nat × List Nat) := (true, [([], []), ([], []), ([0, 1], [0, 1]), ([2], [2]), ([3], [3]), ([], []), ([4, 5], [4, 5]), ([6], [6]), ([7], [7]), ([7], [7]), ([7], [7]), ([9, 10, 7], [7, 9, 10]), ([11, 7], [7, 11]), ([12, 7], [7, 12]), ([7], [7]), ([7], [7]), ([14, 15, 7], [7, 14, 15]), ([16, 7], [7, 16]), ([17, 7], [7, 17]), ([7], [7]), ([18, 19, 7], [7, 18, 19]), ([7], [7]), ([7], [7]), ([8, 13, 20, 21, 22, 7, 7], [7, 8, 13, 20, 21, 22]), ([7], [7]), ([23, 24, 7], [7, 23, 24]), ([25, 7], [7, 25]), ([7], [7]), ([26, 27, 7], [7, 26, 27]), ([7, 28], [7, 28])])
def spec_l12First.B15 : List Nat := [0, 0, 3, 7, 15, 0, 63, 127, 255, 255, 255, 1791, 3839, 7935, 255, 255, 49407, 114943, 246015, 255, 1032447, 255, 255, 8388607, 255, 33554431, 67108863, 255, 268435455, 536870911]
theorem spec_l12First.tab15 : rtab .any (opsOf Try.f47 15) = spec_l12First.T15 := by kernel_rfl
theorem spec_l12First.bits15 : waitsOk spec_l12First.T15.2 spec_l12First.B15 = true := by kernel_rfl
set_option maxHeartbeats 8000000 in
set_option maxRecDepth 100000 in
theorem spec_l12First.calls (k : Nat) (A0 : Option Addr) (c0 : Nat) (l0 : List (S51)) (a1 : Int) (a2 : Int) (a3 : Int) (a4 : Int) (a5 : Int) (a6 : Int) (r1 : Int) (r2 : Int) (r3 : Int) (w : World) (hr0 : Kd.C k51 w A0 l0.length l0) (hc0 : l0.length ≤ c0) (h : spec_l12First.f k l0 a1 a2 a3 a4 a5 a6 = some (r1, r2, r3)) :
 Calls Try.prog 47 #[.slice A0 l0.length c0, .int .i64 a1, .int .i64 a2, .int .i64 a3, .int .i64 a4, .int .i64 a5, .int .i64 a6] w fun e w' => e = .returned (.agg #[.int .i64 r1, .int .i64 r2, .int .i64 r3]) ∧ Below w.heap.size w w' := by
 have hu72 := Try.underlying72
 have HR0 := Aside0.mk hr0
 have HC0 := Aside0.mk hc0
 clear hr0 hc0
 have HB := Aside0.mk (Below.refl w.heap.size w)
 have H : (spec_l12First.l0 k l0 a1 a2 a3 a4 a5 a6 0) = some (r1, r2, r3) := h
 clear h
 have H' := Aside0.mk H
 clear H
 go_enter Try.func47, Try.ntmps47
 go_wp2_with (first | ((with_reducible refine gate_dst (N := 14) rfl ?_); refine box_event ?hg (N := 14) ?hd (cs := #[.int .i64 0, .int .i64 0, .int .i64 0]) (t := 72) ?hr ?_; (case hd => rfl); (case hg => rfl); (case hr => first | (go_simp; done) | (go_simp; rfl)); intro gb206 hg w8 hbox hb; have n0_ := Aside0.mk (below_step (nH HB.out) hb); have n1_ := Aside0.mk (hbox); have n2_ := Aside0.mk ((by rw [hg]; exact (below_size (nH HB.out)) : w.heap.size ≤ gb206)); have n3_ := Aside0.mk ((by rw [hg]; exact (below_size (nH HB.out)) : w.heap.size ≤ gb206)); clear HB; have HB := n0_; have BK206 := n1_; have GW206 := n2_; have GE206 := n3_; clear n0_ n1_ n2_ n3_; clear hb hbox hg))
 go_loopg [15] k (fun kq v15 w' => ∃ (x15_1 : Int) (x207000_1 : Int) (x207001_1 : Int) (x207002_1 : Int), v15 = .int .i64 x15_1 ∧ Aside0 (spec_l12First.l0 kq l0 a1 a2 a3 a4 a5 a6 x15_1 = some (r1, r2, r3)) ∧ Aside0 (kq ≤ k) ∧ Aside0 (w'.heap[gb206]? = some (.cells #[.int .i64 x207000_1, .int .i64 x207001_1, .int .i64 x207002_1] 72 (0, 0))) ∧ Aside0 (Below w.heap.size w w'))
 case atStart => exact ⟨(0), (0), (0), (0), nS, H', ⟨Nat.le_refl _⟩, ⟨by (with_reducible repeat (first | refine blk_drewN ?_ _ | refine blk_drew ?_ | refine blk_alloc ?_ _)); exact BK206.out⟩, ⟨nH1 HB.out GE206.out⟩⟩
 case round =>
  clear H'
  try clear p2; try clear c4
  obtain ⟨x15_1, x207000_1, x207001_1, x207002_1, rfl, HA, HK1, BK206, HB⟩ := hrel
  cases gk with
  | zero => exact absurd HA.out (by simp [spec_l12First.l0])
  | succ k1 =>
   have H := HA.out; clear HA
   simp only [spec_l12First.l0] at H
   by_cases c9 : x15_1 < (l0.length : Int)
   · rw [if_pos c9] at H
     have c9b0 : decide (x15_1 < (l0.length : Int)) = true := decide_eq_true c9
     clear c9
     by_cases c10 : 0 ≤ x15_1
     rotate_left
     · (rw [if_neg c10] at H; exact absurd H (by simp))
     rw [if_pos c10] at H
     have c10b0 : decide (0 ≤ x15_1) = true := decide_eq_true c10
     clear c10
     have H' := Aside0.mk H
     clear H
     have p207 : 0 ≤ (x15_1 : Int) := of_decide_eq_true nQ
     have q207 : x15_1 < (l0.length : Int) := of_decide_eq_true nQ
     obtain ⟨ad207, A207_1, c207_1, e207, hx207_0, hx207_1, hl207_1, hi207_1⟩ := at_T51 HR0.out x15_1 p207 q207
     cases e207
     replace hx207_0 := (HB.out.cell (World.block_lt_of_cell? w _ hx207_0)).trans hx207_0
     replace hx207_1 := (HB.out.cell (World.block_lt_of_cell? w _ hx207_1)).trans hx207_1
     have HR207_1 := Aside0.mk hi207_1
     have HC207_1 := Aside0.mk hl207_1
     clear hi207_1 hl207_1; replace p207 := eq_true p207; replace q207 := eq_true q207; go_wp2
     go_loopg [17] k1 (fun kq v17 w' => ∃ (x17_2 : Int) (x207000_2 : Int) (x207001_2 : Int) (x207002_2 : Int), v17 = .int .i64 x17_2 ∧ Aside0 (spec_l12First.l1 kq l0 a1 a2 a3 a4 a5 a6 x15_1 ((rd_T51 l0 x15_1).f1) x17_2 = some (r1, r2, r3)) ∧ Aside0 (kq ≤ k1) ∧ Aside0 (w'.heap[gb206]? = some (.cells #[.int .i64 x207000_2, .int .i64 x207001_2, .int .i64 x207002_2] 72 (0, 0))) ∧ Aside0 (Below w.heap.size w w'))
     case atStart => exact ⟨(0), (x207000_1), (x207001_1), (x207002_1), nS, H', ⟨Nat.le_refl _⟩, ⟨by (with_reducible repeat (first | refine blk_drewN ?_ _ | refine blk_drew ?_ | refine blk_alloc ?_ _)); exact BK206.out⟩, ⟨nH1 HB.out GE206.out⟩⟩
     case round =>
      clear H'
      try clear c1; try clear c2; try clear p2; try clear q2; try clear hx2; try clear c4; try clear c9; try clear c9b0; try clear c10; try clear c10b0; try clear hx207_0; try clear hx207_1; try clear p2; try clear p207; try clear q207
      obtain ⟨x17_2, x207000_2, x207001_2, x207002_2, rfl, HA, HK2, BK206, HB⟩ := hrel
      cases gk with
      | zero => exact absurd HA.out (by simp [spec_l12First.l1])
      | succ k2 =>
       have H := HA.out; clear HA
       simp only [spec_l12First.l1] at H
       by_cases c11 : x17_2 < (((rd_T51 l0 x15_1).f1).length : Int)
       · rw [if_pos c11] at H
         have c11b0 : decide (x17_2 < (((rd_T51 l0 x15_1).f1).length : Int)) = true := decide_eq_true c11
         clear c11
         have HC12 := Aside0.mk H
         clear H
         go_upto_region 8 with (fail)
         go_cut [51] (fun v51 wc => ∃ (kq : Nat) (x51_11 : Bool), v51 = .bool x51_11 ∧ Aside0 (spec_l12First.j2 kq l0 a1 a2 a3 a4 a5 a6 x15_1 ((rd_T51 l0 x15_1).f1) x17_2 x51_11 = some (r1, r2, r3)) ∧ Aside0 (kq ≤ k2) ∧ Aside0 (wc.heap[gb206]? = some (.cells #[.int .i64 x207000_2, .int .i64 x207001_2, .int .i64 x207002_2] 72 (0, 0))) ∧ Aside0 (Below w.heap.size w wc))
         case first =>
          have H := HC12.out; clear HC12
          by_cases c13 : 0 ≤ x17_2
          rotate_left
          · (rw [if_neg c13] at H; exact absurd H (by simp))
          rw [if_pos c13] at H
          have c13b0 : decide (0 ≤ x17_2) = true := decide_eq_true c13
          clear c13
          (first | rw [c13b0] | (simp only [i64_w, i32_w]; rw [c13b0]) | skip)
          by_cases c14 : ((rd_T67 ((rd_T51 l0 x15_1).f1) x17_2).f0) = a1
          · rw [if_pos c14] at H
            have c14b0 : (((rd_T67 ((rd_T51 l0 x15_1).f1) x17_2).f0) == a1) = true := beq_iff_eq.mpr c14
            have c14b1 : (((rd_T67 ((rd_T51 l0 x15_1).f1) x17_2).f0) != a1) = false := bne_eq_false_iff_eq.mpr c14
            clear c14
            have H' := Aside0.mk H
            clear H
            have p208 : 0 ≤ (x17_2 : Int) := of_decide_eq_true nQ
            have q208 : x17_2 < (((rd_T51 l0 x15_1).f1).length : Int) := of_decide_eq_true nQ
            obtain ⟨ad208, e208, hx208_0, hx208_1, hx208_2⟩ := at_T67 HR207_1.out x17_2 p208 q208
            cases e208
            replace hx208_0 := (HB.out.cell (World.block_lt_of_cell? w _ hx208_0)).trans hx208_0
            replace hx208_1 := (HB.out.cell (World.block_lt_of_cell? w _ hx208_1)).trans hx208_1
            replace hx208_2 := (HB.out.cell (World.block_lt_of_cell? w _ hx208_2)).trans hx208_2
            replace p208 := eq_true p208; replace q208 := eq_true q208
            have p209 : 0 ≤ (x17_2 : Int) := of_decide_eq_true nQ
            have q209 : x17_2 < (((rd_T51 l0 x15_1).f1).length : Int) := of_decide_eq_true nQ
            obtain ⟨ad209, e209, hx209_0, hx209_1, hx209_2⟩ := at_T67 HR207_1.out x17_2 p209 q209
            obtain rfl : ad208 = ad209 := (by injection e209)
            replace hx209_0 := (HB.out.cell (World.block_lt_of_cell? w _ hx209_0)).trans hx209_0
            replace hx209_1 := (HB.out.cell (World.block_lt_of_cell? w _ hx209_1)).trans hx209_1
            replace hx209_2 := (HB.out.cell (World.block_lt_of_cell? w _ hx209_2)).trans hx209_2
            replace p209 := eq_true p209; replace q209 := eq_true q209; go_wp2
            go_meet
            case rel => exact ⟨_, (decide (((rd_T67 ((rd_T51 l0 x15_1).f1) x17_2).f2) < a3)), nS, H', ⟨by have := HK1.out; have := HK2.out; first | omega | exact Nat.le_refl _⟩, ⟨by (with_reducible repeat (first | refine blk_drewN ?_ _ | refine blk_drew ?_ | refine blk_alloc ?_ _)); exact BK206.out⟩, ⟨nH1 HB.out GE206.out⟩⟩
          · rw [if_neg c14] at H
            have c14b0 : (((rd_T67 ((rd_T51 l0 x15_1).f1) x17_2).f0) == a1) = false := beq_eq_false_iff_ne.mpr c14
            have c14b1 : (((rd_T67 ((rd_T51 l0 x15_1).f1) x17_2).f0) != a1) = true := bne_iff_ne.mpr c14
            have H' := Aside0.mk H
            clear H
            have p208 : 0 ≤ (x17_2 : Int) := of_decide_eq_true nQ
            have q208 : x17_2 < (((rd_T51 l0 x15_1).f1).length : Int) := of_decide_eq_true nQ
            obtain ⟨ad208, e208, hx208_0, hx208_1, hx208_2⟩ := at_T67 HR207_1.out x17_2 p208 q208
            cases e208
            replace hx208_0 := (HB.out.cell (World.block_lt_of_cell? w _ hx208_0)).trans hx208_0
            replace hx208_1 := (HB.out.cell (World.block_lt_of_cell? w _ hx208_1)).trans hx208_1
            replace hx208_2 := (HB.out.cell (World.block_lt_of_cell? w _ hx208_2)).trans hx208_2
            replace p208 := eq_true p208; replace q208 := eq_true q208; go_wp2
            go_meet
            case rel => exact ⟨_, (true), nS, H', ⟨by have := HK1.out; have := HK2.out; first | omega | exact Nat.le_refl _⟩, ⟨by (with_reducible repeat (first | refine blk_drewN ?_ _ | refine blk_drew ?_ | refine blk_alloc ?_ _)); exact BK206.out⟩, ⟨nH1 HB.out GE206.out⟩⟩
         case rest =>
          clear HC12; try clear c1; try clear c2; try clear p2; try clear q2; try clear hx2; try clear c4; try clear c9; try clear c9b0; try clear c10; try clear c10b0; try clear c11; try clear c11b0; try clear c13; try clear c13b0; try clear c14; try clear c14b0; try clear c14b1; try clear hx207_0; try clear hx207_1; try clear hx208_0; try clear hx208_1; try clear hx208_2; try clear hx209_0; try clear hx209_1; try clear hx209_2; try clear p2; try clear p207; try clear p208; try clear p209; try clear q2; try clear q207; try clear q208; try clear q209
          obtain ⟨kq, x51_11, rfl, HA, HJ11, BK206, HB⟩ := hcut
          cases kq with
          | zero => exact absurd HA.out (by simp [spec_l12First.j2])
          | succ kj11 =>
           have H := HA.out; clear HA
           simp only [spec_l12First.j2] at H
           by_cases c15 : x51_11 = true
           · subst c15
             have H1 : (spec_l12First.l1 kj11 l0 a1 a2 a3 a4 a5 a6 x15_1 ((rd_T51 l0 x15_1).f1) (wrap64 (x17_2 + 1))) = some (r1, r2, r3) := by rw [if_pos rfl] at H; exact H
             clear H; have H := H1; clear H1
             have H' := Aside0.mk H
             clear H; go_wp2
             go_roundg kj11
             case measure => have := HK1.out; have := HK2.out; have := HJ11.out; omega
             case rel => exact ⟨(wrap64 (x17_2 + 1)), (x207000_2), (x207001_2), (x207002_2), nS, H', ⟨by have := HK1.out; have := HK2.out; have := HJ11.out; omega⟩, ⟨by (with_reducible repeat (first | refine blk_drewN ?_ _ | refine blk_drew ?_ | refine blk_alloc ?_ _)); exact BK206.out⟩, ⟨nH1 HB.out GE206.out⟩⟩
           · replace c15 := Bool.eq_false_iff.mpr c15
             subst c15
             have H1 : (spec_l12First.l2 kj11 l0 a1 a2 a3 a4 a5 a6 x15_1 ((rd_T51 l0 x15_1).f1) x17_2 (wrap64 (x17_2 + 1))) = some (r1, r2, r3) := by rw [if_neg (show ¬ (false = true) by decide)] at H; exact H
             clear H; have H := H1; clear H1
             have H' := Aside0.mk H
             clear H; go_wp2
             go_loopg [18] kj11 (fun kq v18 w' => ∃ (x18_4 : Int) (x207000_4 : Int) (x207001_4 : Int) (x207002_4 : Int), v18 = .int .i64 x18_4 ∧ Aside0 (spec_l12First.l2 kq l0 a1 a2 a3 a4 a5 a6 x15_1 ((rd_T51 l0 x15_1).f1) x17_2 x18_4 = some (r1, r2, r3)) ∧ Aside0 (kq ≤ kj11) ∧ Aside0 (w'.heap[gb206]? = some (.cells #[.int .i64 x207000_4, .int .i64 x207001_4, .int .i64 x207002_4] 72 (0, 0))) ∧ Aside0 (Below w.heap.size w w'))
             case atStart => exact ⟨(wrap64 (x17_2 + 1)), (x207000_2), (x207001_2), (x207002_2), nS, H', ⟨Nat.le_refl _⟩, ⟨by (with_reducible repeat (first | refine blk_drewN ?_ _ | refine blk_drew ?_ | refine blk_alloc ?_ _)); exact BK206.out⟩, ⟨nH1 HB.out GE206.out⟩⟩
             case round =>
              clear H'
              try clear c1; try clear c2; try clear p2; try clear q2; try clear hx2; try clear c4; try clear p6; try clear c9; try clear c9b0; try clear c10; try clear c10b0; try clear c11; try clear c11b0; try clear c13; try clear c13b0; try clear c14; try clear c14b0; try clear c14b1; try clear c15; try clear hx207_0; try clear hx207_1; try clear hx208_0; try clear hx208_1; try clear hx208_2; try clear hx209_0; try clear hx209_1; try clear hx209_2; try clear p2; try clear p207; try clear p208; try clear p209; try clear q2; try clear q207; try clear q208; try clear q209
              obtain ⟨x18_4, x207000_4, x207001_4, x207002_4, rfl, HA, HK4, BK206, HB⟩ := hrel
              cases gk with
              | zero => exact absurd HA.out (by simp [spec_l12First.l2])
              | succ k4 =>
               have H := HA.out; clear HA
               simp only [spec_l12First.l2] at H
               by_cases c16 : x18_4 < (((rd_T51 l0 x15_1).f1).length : Int)
               · rw [if_pos c16] at H
                 have c16b0 : decide (x18_4 < (((rd_T51 l0 x15_1).f1).length : Int)) = true := decide_eq_true c16
                 clear c16
                 by_cases c17 : a5 = 0
                 · rw [if_pos c17] at H
                   have c17b0 : (a5 == 0) = true := beq_iff_eq.mpr c17
                   have c17b1 : (a5 != 0) = false := bne_eq_false_iff_eq.mpr c17
                   clear c17
                   have HC18 := Aside0.mk H
                   clear H
                   go_upto_region 13 with (fail)
                   go_cut [77] (fun v77 wc => ∃ (kq : Nat) (x77_17 : Bool), v77 = .bool x77_17 ∧ Aside0 (spec_l12First.j4 kq l0 a1 a2 a3 a4 a5 a6 x15_1 ((rd_T51 l0 x15_1).f1) x17_2 x18_4 x77_17 = some (r1, r2, r3)) ∧ Aside0 (kq ≤ k4) ∧ Aside0 (wc.heap[gb206]? = some (.cells #[.int .i64 x207000_4, .int .i64 x207001_4, .int .i64 x207002_4] 72 (0, 0))) ∧ Aside0 (Below w.heap.size w wc))
                   case first =>
                    have H := HC18.out; clear HC18
                    by_cases c19 : 0 ≤ x18_4
                    rotate_left
                    · (rw [if_neg c19] at H; exact absurd H (by simp))
                    rw [if_pos c19] at H
                    have c19b0 : decide (0 ≤ x18_4) = true := decide_eq_true c19
                    clear c19
                    (first | rw [c19b0] | (simp only [i64_w, i32_w]; rw [c19b0]) | skip)
                    by_cases c20 : ((rd_T67 ((rd_T51 l0 x15_1).f1) x18_4).f0) = a2
                    · rw [if_pos c20] at H
                      have c20b0 : (((rd_T67 ((rd_T51 l0 x15_1).f1) x18_4).f0) == a2) = true := beq_iff_eq.mpr c20
                      have c20b1 : (((rd_T67 ((rd_T51 l0 x15_1).f1) x18_4).f0) != a2) = false := bne_eq_false_iff_eq.mpr c20
                      clear c20
                      have H' := Aside0.mk H
                      clear H
                      have p210 : 0 ≤ (x18_4 : Int) := of_decide_eq_true nQ
                      have q210 : x18_4 < (((rd_T51 l0 x15_1).f1).length : Int) := of_decide_eq_true nQ
                      obtain ⟨ad210, e210, hx210_0, hx210_1, hx210_2⟩ := at_T67 HR207_1.out x18_4 p210 q210
                      cases e210
                      replace hx210_0 := (HB.out.cell (World.block_lt_of_cell? w _ hx210_0)).trans hx210_0
                      replace hx210_1 := (HB.out.cell (World.block_lt_of_cell? w _ hx210_1)).trans hx210_1
                      replace hx210_2 := (HB.out.cell (World.block_lt_of_cell? w _ hx210_2)).trans hx210_2
                      replace p210 := eq_true p210; replace q210 := eq_true q210
                      have p211 : 0 ≤ (x18_4 : Int) := of_decide_eq_true nQ
                      have q211 : x18_4 < (((rd_T51 l0 x15_1).f1).length : Int) := of_decide_eq_true nQ
                      obtain ⟨ad211, e211, hx211_0, hx211_1, hx211_2⟩ := at_T67 HR207_1.out x18_4 p211 q211
                      obtain rfl : ad210 = ad211 := (by injection e211)
                      replace hx211_0 := (HB.out.cell (World.block_lt_of_cell? w _ hx211_0)).trans hx211_0
                      replace hx211_1 := (HB.out.cell (World.block_lt_of_cell? w _ hx211_1)).trans hx211_1
                      replace hx211_2 := (HB.out.cell (World.block_lt_of_cell? w _ hx211_2)).trans hx211_2
                      replace p211 := eq_true p211; replace q211 := eq_true q211; go_wp2
                      go_meet
                      case rel => exact ⟨_, ((((rd_T67 ((rd_T51 l0 x15_1).f1) x18_4).f1) == a6)), nS, H', ⟨by have := HK1.out; have := HK2.out; have := HJ11.out; have := HK4.out; first | omega | exact Nat.le_refl _⟩, ⟨by (with_reducible repeat (first | refine blk_drewN ?_ _ | refine blk_drew ?_ | refine blk_alloc ?_ _)); exact BK206.out⟩, ⟨nH1 HB.out GE206.out⟩⟩
                    · rw [if_neg c20] at H
                      have c20b0 : (((rd_T67 ((rd_T51 l0 x15_1).f1) x18_4).f0) == a2) = false := beq_eq_false_iff_ne.mpr c20
                      have c20b1 : (((rd_T67 ((rd_T51 l0 x15_1).f1) x18_4).f0) != a2) = true := bne_iff_ne.mpr c20
                      have H' := Aside0.mk H
                      clear H
                      have p210 : 0 ≤ (x18_4 : Int) := of_decide_eq_true nQ
                      have q210 : x18_4 < (((rd_T51 l0 x15_1).f1).length : Int) := of_decide_eq_true nQ
                      obtain ⟨ad210, e210, hx210_0, hx210_1, hx210_2⟩ := at_T67 HR207_1.out x18_4 p210 q210
                      cases e210
                      replace hx210_0 := (HB.out.cell (World.block_lt_of_cell? w _ hx210_0)).trans hx210_0
                      replace hx210_1 := (HB.out.cell (World.block_lt_of_cell? w _ hx210_1)).trans hx210_1
                      replace hx210_2 := (HB.out.cell (World.block_lt_of_cell? w _ hx210_2)).trans hx210_2
                      replace p210 := eq_true p210; replace q210 := eq_true q210; go_wp2
                      go_meet
                      case rel => exact ⟨_, (false), nS, H', ⟨by have := HK1.out; have := HK2.out; have := HJ11.out; have := HK4.out; first | omega | exact Nat.le_refl _⟩, ⟨by (with_reducible repeat (first | refine blk_drewN ?_ _ | refine blk_drew ?_ | refine blk_alloc ?_ _)); exact BK206.out⟩, ⟨nH1 HB.out GE206.out⟩⟩
                   case rest =>
                    clear HC18; try clear c1; try clear c2; try clear p2; try clear q2; try clear hx2; try clear c4; try clear p6; try clear c9; try clear c9b0; try clear c10; try clear c10b0; try clear c11; try clear c11b0; try clear c13; try clear c13b0; try clear c14; try clear c14b0; try clear c14b1; try clear c15; try clear c16; try clear c16b0; try clear c17; try clear c17b0; try clear c17b1; try clear c19; try clear c19b0; try clear c20; try clear c20b0; try clear c20b1; try clear p20; try clear q20; try clear hx20; try clear hx207_0; try clear hx207_1; try clear hx208_0; try clear hx208_1
                    try clear hx208_2; try clear hx209_0; try clear hx209_1; try clear hx209_2; try clear hx210_0; try clear hx210_1; try clear hx210_2; try clear hx211_0; try clear hx211_1; try clear hx211_2; try clear p2; try clear p207; try clear p208; try clear p209; try clear p210; try clear p211; try clear p6; try clear q2; try clear q207; try clear q208; try clear q209; try clear q210; try clear q211
                    obtain ⟨kq, x77_17, rfl, HA, HJ17, BK206, HB⟩ := hcut
                    cases kq with
                    | zero => exact absurd HA.out (by simp [spec_l12First.j4])
                    | succ kj17 =>
                     have H := HA.out; clear HA
                     simp only [spec_l12First.j4] at H
                     by_cases c21 : x77_17 = true
                     · subst c21
                       have H1 : (some (x15_1, x17_2, x18_4)) = some (r1, r2, r3) := by rw [if_pos rfl] at H; exact H
                       clear H; have H := H1; clear H1
                       simp only [Option.some.injEq, Prod.mk.injEq] at H
                       obtain ⟨rfl, rfl, rfl⟩ := H
                       have hcz22_0 : wc.cell? ⟨gb206, 0, none⟩ = some (.int .i64 x207000_4) := (blk_cell BK206.out 0).trans rfl
                       have hcz22_1 : wc.cell? ⟨gb206, 1, none⟩ = some (.int .i64 x207001_4) := (blk_cell BK206.out 1).trans rfl
                       have hcz22_2 : wc.cell? ⟨gb206, 2, none⟩ = some (.int .i64 x207002_4) := (blk_cell BK206.out 2).trans rfl
                       have hfz22_0 := blk_frozen BK206.out 0
                       have hfz22_1 := blk_frozen BK206.out 1
                       have hfz22_2 := blk_frozen BK206.out 2
                       go_wp2
                       refine bodyPost_ret (results_cell_row rfl _ _ gb206 72 #[.int .i64 x15_1, .int .i64 x17_2, .int .i64 x18_4] (0, 0) _ rfl (by (with_reducible repeat (first | refine blk_drewN ?_ _ | refine blk_drew ?_ | refine blk_alloc ?_ _)); refine blk_put (cs := #[.int .i64 x15_1, .int .i64 x17_2, .int .i64 x207002_4]) ?_ 2 _ rfl; (with_reducible repeat (first | refine blk_drewN ?_ _ | refine blk_drew ?_ | refine blk_alloc ?_ _)); refine blk_put (cs := #[.int .i64 x15_1, .int .i64 x207001_4, .int .i64 x207002_4]) ?_ 1 _ rfl; (with_reducible repeat (first | refine blk_drewN ?_ _ | refine blk_drew ?_ | refine blk_alloc ?_ _)); refine blk_put (cs := #[.int .i64 x207000_4, .int .i64 x207001_4, .int .i64 x207002_4]) ?_ 0 _ rfl; (with_reducible repeat (first | refine blk_drewN ?_ _ | refine blk_drew ?_ | refine blk_alloc ?_ _)); exact BK206.out) Try.underlying72 rfl (by kernel_rfl)) rfl ?_
                       exact ⟨by first | rfl | (simp [errW_none, errW_some] <;> rfl) | (simp [*, errW_none, errW_some] <;> first | rfl | (simp [wrap64]; done)), nH1 HB.out GE206.out⟩
                     · replace c21 := Bool.eq_false_iff.mpr c21
                       subst c21
                       have H1 : (spec_l12First.l2 kj17 l0 a1 a2 a3 a4 a5 a6 x15_1 ((rd_T51 l0 x15_1).f1) x17_2 (wrap64 (x18_4 + 1))) = some (r1, r2, r3) := by rw [if_neg (show ¬ (false = true) by decide)] at H; exact H
                       clear H; have H := H1; clear H1
                       have H' := Aside0.mk H
                       clear H; go_wp2
                       go_roundg kj17
                       case measure => have := HK1.out; have := HK2.out; have := HJ11.out; have := HK4.out; have := HJ17.out; omega
                       case rel => exact ⟨(wrap64 (x18_4 + 1)), (x207000_4), (x207001_4), (x207002_4), nS, H', ⟨by have := HK1.out; have := HK2.out; have := HJ11.out; have := HK4.out; have := HJ17.out; omega⟩, ⟨by (with_reducible repeat (first | refine blk_drewN ?_ _ | refine blk_drew ?_ | refine blk_alloc ?_ _)); exact BK206.out⟩, ⟨nH1 HB.out GE206.out⟩⟩
                 · rw [if_neg c17] at H
                   have c17b0 : (a5 == 0) = false := beq_eq_false_iff_ne.mpr c17
                   have c17b1 : (a5 != 0) = true := bne_iff_ne.mpr c17
                   by_cases c23 : 0 ≤ x18_4
                   rotate_left
                   · (rw [if_neg c23] at H; exact absurd H (by simp))
                   rw [if_pos c23] at H
                   have c23b0 : decide (0 ≤ x18_4) = true := decide_eq_true c23
                   clear c23
                   by_cases c24 : ((rd_T67 ((rd_T51 l0 x15_1).f1) x18_4).f0) = a2
                   · rw [if_pos c24] at H
                     have c24b0 : (((rd_T67 ((rd_T51 l0 x15_1).f1) x18_4).f0) == a2) = true := beq_iff_eq.mpr c24
                     have c24b1 : (((rd_T67 ((rd_T51 l0 x15_1).f1) x18_4).f0) != a2) = false := bne_eq_false_iff_eq.mpr c24
                     clear c24
                     have H' := Aside0.mk H
                     clear H
                     try go_wp2
                     have n0_ := Aside0.mk (blk_drew BK206.out)
                     have n1_ := Aside0.mk (below_drew1 HB.out)
                     clear BK206; clear HB; have BK206 := n0_; have HB := n1_; clear n0_ n1_
                     have p212 : 0 ≤ (x18_4 : Int) := of_decide_eq_true nQ
                     have q212 : x18_4 < (((rd_T51 l0 x15_1).f1).length : Int) := of_decide_eq_true nQ
                     obtain ⟨ad212, e212, hx212_0, hx212_1, hx212_2⟩ := at_T67 HR207_1.out x18_4 p212 q212
                     have hw212_2 := hx212_2; have hw212_1 := hx212_1; have hw212_0 := hx212_0; cases e212
                     replace hx212_0 := (HB.out.cell (World.block_lt_of_cell? w _ hx212_0)).trans hx212_0
                     replace hx212_1 := (HB.out.cell (World.block_lt_of_cell? w _ hx212_1)).trans hx212_1
                     replace hx212_2 := (HB.out.cell (World.block_lt_of_cell? w _ hx212_2)).trans hx212_2
                     replace p212 := eq_true p212; replace q212 := eq_true q212
                     refine start_ (n := 30) (S := fun w' => w'.cell? (ad212.add ((x18_4).toNat * 3)) = some (.int .i64 ((rd_T67 ((rd_T51 l0 x15_1).f1) x18_4).f0)) ∧ w'.cell? ⟨(ad212.add ((x18_4).toNat * 3)).block, (ad212.add ((x18_4).toNat * 3)).off + 1, none⟩ = some (.int .i64 ((rd_T67 ((rd_T51 l0 x15_1).f1) x18_4).f1)) ∧ w'.cell? ⟨(ad212.add ((x18_4).toNat * 3)).block, (ad212.add ((x18_4).toNat * 3)).off + 2, none⟩ = some (.int .i64 ((rd_T67 ((rd_T51 l0 x15_1).f1) x18_4).f2))) (ds := []) #[F,F,F,F,F,F,F,F,F,F,F,F,F,F,F,F,F,F,F,F,F,F,F,F,F,F,F,F,F,F] (by kernel_rfl) rfl rfl ⟨(nC HB.out hw212_0 :), (nC HB.out hw212_1 :), (nC HB.out hw212_2 :)⟩ (fun hHeld => ?_); refine with_tabW spec_l12First.tab15 spec_l12First.bits15 (fun HT_ HW_ => ?_)
                     generalize wr.drew = w25 at BK206 HB hx212_0 hx212_1 hx212_2 hHeld ⊢
                     refine pU 0 (some 82) #[T,F,F,F,F,F,F,F,F,F,F,F,F,F,F,F,F,F,F,F,F,F,F,F,F,F,F,F,F,F] rfl rfl HT_.out ?_
                     refine pU 1 (some 83) #[T,T,F,F,F,F,F,F,F,F,F,F,F,F,F,F,F,F,F,F,F,F,F,F,F,F,F,F,F,F] rfl rfl HT_.out ?_
                     refine pU 2 (some 84) #[T,T,T,F,F,F,F,F,F,F,F,F,F,F,F,F,F,F,F,F,F,F,F,F,F,F,F,F,F,F] rfl rfl HT_.out ?_
                     refine pU 3 (some 85) #[T,T,T,T,F,F,F,F,F,F,F,F,F,F,F,F,F,F,F,F,F,F,F,F,F,F,F,F,F,F] rfl rfl HT_.out ?_
                     refine pU 5 (some 87) #[T,T,T,T,F,T,F,F,F,F,F,F,F,F,F,F,F,F,F,F,F,F,F,F,F,F,F,F,F,F] rfl rfl HT_.out ?_
                     refine tU3 4 (some 86) #[T,T,T,T,T,T,F,F,F,F,F,F,F,F,F,F,F,F,F,F,F,F,F,F,F,F,F,F,F,F] rfl rfl HT_.out HW_.out hHeld ?_
                     refine pU 6 (some 88) #[T,T,T,T,T,T,T,F,F,F,F,F,F,F,F,F,F,F,F,F,F,F,F,F,F,F,F,F,F,F] rfl rfl HT_.out ?_
                     refine pU 7 (some 89) #[T,T,T,T,T,T,T,T,F,F,F,F,F,F,F,F,F,F,F,F,F,F,F,F,F,F,F,F,F,F] rfl rfl HT_.out ?_
                     refine pV 8 (some 90) #[T,T,T,T,T,T,T,T,T,F,F,F,F,F,F,F,F,F,F,F,F,F,F,F,F,F,F,F,F,F] rfl rfl HT_.out ?_
                     refine pV 9 (some 91) #[T,T,T,T,T,T,T,T,T,T,F,F,F,F,F,F,F,F,F,F,F,F,F,F,F,F,F,F,F,F] rfl rfl HT_.out ?_
                     refine pV 10 (some 92) #[T,T,T,T,T,T,T,T,T,T,T,F,F,F,F,F,F,F,F,F,F,F,F,F,F,F,F,F,F,F] rfl rfl HT_.out ?_
                     refine pV 11 (some 93) #[T,T,T,T,T,T,T,T,T,T,T,T,F,F,F,F,F,F,F,F,F,F,F,F,F,F,F,F,F,F] rfl rfl HT_.out ?_
                     refine pV 12 (some 94) #[T,T,T,T,T,T,T,T,T,T,T,T,T,F,F,F,F,F,F,F,F,F,F,F,F,F,F,F,F,F] rfl rfl HT_.out ?_
                     refine pV 13 (some 95) #[T,T,T,T,T,T,T,T,T,T,T,T,T,T,F,F,F,F,F,F,F,F,F,F,F,F,F,F,F,F] rfl rfl HT_.out ?_
                     refine pV 14 (some 96) #[T,T,T,T,T,T,T,T,T,T,T,T,T,T,T,F,F,F,F,F,F,F,F,F,F,F,F,F,F,F] rfl rfl HT_.out ?_
                     refine pV 15 (some 97) #[T,T,T,T,T,T,T,T,T,T,T,T,T,T,T,T,F,F,F,F,F,F,F,F,F,F,F,F,F,F] rfl rfl HT_.out ?_
                     refine pV 16 (some 98) #[T,T,T,T,T,T,T,T,T,T,T,T,T,T,T,T,T,F,F,F,F,F,F,F,F,F,F,F,F,F] rfl rfl HT_.out ?_
                     refine pV 17 (some 99) #[T,T,T,T,T,T,T,T,T,T,T,T,T,T,T,T,T,T,F,F,F,F,F,F,F,F,F,F,F,F] rfl rfl HT_.out ?_
                     refine pV 18 (some 100) #[T,T,T,T,T,T,T,T,T,T,T,T,T,T,T,T,T,T,T,F,F,F,F,F,F,F,F,F,F,F] rfl rfl HT_.out ?_
                     refine pV 19 (some 101) #[T,T,T,T,T,T,T,T,T,T,T,T,T,T,T,T,T,T,T,T,F,F,F,F,F,F,F,F,F,F] rfl rfl HT_.out ?_
                     refine pV 20 (some 102) #[T,T,T,T,T,T,T,T,T,T,T,T,T,T,T,T,T,T,T,T,T,F,F,F,F,F,F,F,F,F] rfl rfl HT_.out ?_
                     refine pV 21 (some 103) #[T,T,T,T,T,T,T,T,T,T,T,T,T,T,T,T,T,T,T,T,T,T,F,F,F,F,F,F,F,F] rfl rfl HT_.out ?_
                     refine pV 22 (some 104) #[T,T,T,T,T,T,T,T,T,T,T,T,T,T,T,T,T,T,T,T,T,T,T,F,F,F,F,F,F,F] rfl rfl HT_.out ?_
                     refine pV 23 (some 105) #[T,T,T,T,T,T,T,T,T,T,T,T,T,T,T,T,T,T,T,T,T,T,T,T,F,F,F,F,F,F] rfl rfl HT_.out ?_
                     refine pV 24 (some 106) #[T,T,T,T,T,T,T,T,T,T,T,T,T,T,T,T,T,T,T,T,T,T,T,T,T,F,F,F,F,F] rfl rfl HT_.out ?_
                     refine pV 25 (some 107) #[T,T,T,T,T,T,T,T,T,T,T,T,T,T,T,T,T,T,T,T,T,T,T,T,T,T,F,F,F,F] rfl rfl HT_.out ?_
                     refine pV 26 (some 108) #[T,T,T,T,T,T,T,T,T,T,T,T,T,T,T,T,T,T,T,T,T,T,T,T,T,T,T,F,F,F] rfl rfl HT_.out ?_
                     refine pV 27 (some 109) #[T,T,T,T,T,T,T,T,T,T,T,T,T,T,T,T,T,T,T,T,T,T,T,T,T,T,T,T,F,F] rfl rfl HT_.out ?_
                     refine pV 28 (some 110) #[T,T,T,T,T,T,T,T,T,T,T,T,T,T,T,T,T,T,T,T,T,T,T,T,T,T,T,T,T,F] rfl rfl HT_.out ?_
                     refine pU 29 (some 111) #[T,T,T,T,T,T,T,T,T,T,T,T,T,T,T,T,T,T,T,T,T,T,T,T,T,T,T,T,T,T] rfl rfl HT_.out ?_
                     refine done_ (done_of HT_.out (by kernel_rfl)) ?_
                     try go_wp2
                     go_roundg k4
                     case measure => have := HK1.out; have := HK2.out; have := HJ11.out; have := HK4.out; omega
                     case rel => exact ⟨(wrap64 (x18_4 + 1)), (x207000_4), (x207001_4), (x207002_4), nS, H', ⟨by have := HK1.out; have := HK2.out; have := HJ11.out; have := HK4.out; omega⟩, ⟨by (with_reducible repeat (first | refine blk_drewN ?_ _ | refine blk_drew ?_ | refine blk_alloc ?_ _)); exact BK206.out⟩, ⟨nH1 HB.out GE206.out⟩⟩
                   · rw [if_neg c24] at H
                     have c24b0 : (((rd_T67 ((rd_T51 l0 x15_1).f1) x18_4).f0) == a2) = false := beq_eq_false_iff_ne.mpr c24
                     have c24b1 : (((rd_T67 ((rd_T51 l0 x15_1).f1) x18_4).f0) != a2) = true := bne_iff_ne.mpr c24
                     replace H := Option.bind_eq_some_iff.mp H
                     obtain ⟨t215, A260, H⟩ := H
                     replace H : (if 0 ≤ a2 then (if a2 < (t215.length : Int) then (if (rd t215 a2) = a6 then (some (x15_1, x17_2, x18_4)) else (spec_l12First.l2 k4 l0 a1 a2 a3 a4 a5 a6 x15_1 ((rd_T51 l0 x15_1).f1) x17_2 (wrap64 (x18_4 + 1)))) else (none)) else (none)) = some (r1, r2, r3) := H
                     have A26 := Aside0.mk A260
                     clear A260
                     by_cases c27 : 0 ≤ a2
                     rotate_left
                     · (rw [if_neg c27] at H; exact absurd H (by simp))
                     rw [if_pos c27] at H
                     have c27b0 : decide (0 ≤ a2) = true := decide_eq_true c27
                     clear c27
                     by_cases c28 : a2 < (t215.length : Int)
                     rotate_left
                     · (rw [if_neg c28] at H; exact absurd H (by simp))
                     rw [if_pos c28] at H
                     have c28b0 : decide (a2 < (t215.length : Int)) = true := decide_eq_true c28
                     clear c28
                     by_cases c29 : (rd t215 a2) = a6
                     · rw [if_pos c29] at H
                       have c29b0 : ((rd t215 a2) == a6) = true := beq_iff_eq.mpr c29
                       have c29b1 : ((rd t215 a2) != a6) = false := bne_eq_false_iff_eq.mpr c29
                       clear c29
                       simp only [Option.some.injEq, Prod.mk.injEq] at H
                       obtain ⟨rfl, rfl, rfl⟩ := H
                       try go_wp2
                       have p212 : 0 ≤ (x18_4 : Int) := of_decide_eq_true nQ
                       have q212 : x18_4 < (((rd_T51 l0 x15_1).f1).length : Int) := of_decide_eq_true nQ
                       obtain ⟨ad212, e212, hx212_0, hx212_1, hx212_2⟩ := at_T67 HR207_1.out x18_4 p212 q212
                       have hw212_2 := hx212_2; have hw212_1 := hx212_1; have hw212_0 := hx212_0; cases e212
                       replace hx212_0 := (HB.out.cell (World.block_lt_of_cell? w _ hx212_0)).trans hx212_0
                       replace hx212_1 := (HB.out.cell (World.block_lt_of_cell? w _ hx212_1)).trans hx212_1
                       replace hx212_2 := (HB.out.cell (World.block_lt_of_cell? w _ hx212_2)).trans hx212_2
                       replace p212 := eq_true p212; replace q212 := eq_true q212
                       have P_ : 0 ≤ (a2 : Int) := of_decide_eq_true nQ
                       have Q_ : a2 < (t215.length : Int) := of_decide_eq_true nQ
                       refine wp_region_held_drew (S := fun w' => w'.cell? (ad212.add ((x18_4).toNat * 3)) = some (.int .i64 ((rd_T67 ((rd_T51 l0 x15_1).f1) x18_4).f0)) ∧ w'.cell? ⟨(ad212.add ((x18_4).toNat * 3)).block, (ad212.add ((x18_4).toNat * 3)).off + 1, none⟩ = some (.int .i64 ((rd_T67 ((rd_T51 l0 x15_1).f1) x18_4).f1)) ∧ w'.cell? ⟨(ad212.add ((x18_4).toNat * 3)).block, (ad212.add ((x18_4).toNat * 3)).off + 2, none⟩ = some (.int .i64 ((rd_T67 ((rd_T51 l0 x15_1).f1) x18_4).f2)) ∧ Below wr.heap.size wr w') (by kernel_rfl) (ks_all hx212_0 hx212_1 hx212_2 (below_drew1 (Below.refl _ _))) (fun hHeld => ?_)
                       refine wpAnyH_take_d (i := 0) (v := ?_) (some 82) rfl (by kernel_rfl) (by kernel_rfl) (by kernel_rfl) (by kernel_rfl) (fun _ _ _ h => h) (Or.inl ⟨by kernel_rfl, ?_⟩) hHeld ?_
                       rotate_left
                       · intro w' hSw; clear hSw
                         go_simp; with_reducible rfl
                       (try simp only [Act.put, List.setIfInBounds_toArray, List.set_cons_zero, List.set_cons_succ, i64_w, i32_w])
                       refine wpAnyH_take_d (i := 1) (v := ?_) (some 83) rfl (by kernel_rfl) (by kernel_rfl) (by kernel_rfl) (by kernel_rfl) (fun _ _ _ h => h) (Or.inl ⟨by kernel_rfl, ?_⟩) hHeld ?_
                       rotate_left
                       · intro w' hSw; clear hSw
                         go_simp; with_reducible rfl
                       (try simp only [Act.put, List.setIfInBounds_toArray, List.set_cons_zero, List.set_cons_succ, i64_w, i32_w])
                       refine wpAnyH_take_d (i := 2) (v := ?_) (some 84) rfl (by kernel_rfl) (by kernel_rfl) (by kernel_rfl) (by kernel_rfl) (fun _ _ _ h => h) (Or.inl ⟨by kernel_rfl, ?_⟩) hHeld ?_
                       rotate_left
                       · intro w' hSw; clear hSw
                         go_simp; with_reducible rfl
                       (try simp only [Act.put, List.setIfInBounds_toArray, List.set_cons_zero, List.set_cons_succ, i64_w, i32_w])
                       refine wpAnyH_take_d (i := 3) (v := ?_) (some 85) rfl (by kernel_rfl) (by kernel_rfl) (by kernel_rfl) (by kernel_rfl) (fun _ _ _ h => h) (Or.inl ⟨by kernel_rfl, ?_⟩) hHeld ?_
                       rotate_left
                       · intro w' hSw; clear hSw
                         go_simp; with_reducible rfl
                       (try simp only [Act.put, List.setIfInBounds_toArray, List.set_cons_zero, List.set_cons_succ, i64_w, i32_w])
                       refine wpAnyH_take_d (i := 5) (v := ?_) (some 87) rfl (by kernel_rfl) (by kernel_rfl) (by kernel_rfl) (by kernel_rfl) (fun _ _ _ h => h) (Or.inl ⟨by kernel_rfl, ?_⟩) hHeld ?_
                       rotate_left
                       · intro w' hSw; clear hSw
                         go_simp; with_reducible rfl
                       (try simp only [Act.put, List.setIfInBounds_toArray, List.set_cons_zero, List.set_cons_succ, i64_w, i32_w])
                       refine wpAnyH_take_d (i := 4) (v := ?_) (some 86) rfl (by kernel_rfl) (by kernel_rfl) (by kernel_rfl) (by kernel_rfl) (fun _ _ _ h => h) (Or.inl ⟨by kernel_rfl, ?_⟩) hHeld ?_
                       rotate_left
                       · rintro w' ⟨s0, s1, s2, s3⟩
                         go_simp; with_reducible rfl
                       (try simp only [Act.put, List.setIfInBounds_toArray, List.set_cons_zero, List.set_cons_succ, i64_w, i32_w])
                       refine wpAnyH_take_d (i := 6) (v := ?_) (some 88) rfl (by kernel_rfl) (by kernel_rfl) (by kernel_rfl) (by kernel_rfl) (fun _ _ _ h => h) (Or.inl ⟨by kernel_rfl, ?_⟩) hHeld ?_
                       rotate_left
                       · intro w' hSw; clear hSw
                         go_simp; with_reducible rfl
                       (try simp only [Act.put, List.setIfInBounds_toArray, List.set_cons_zero, List.set_cons_succ, i64_w, i32_w])
                       refine wpAnyH_take_d (i := 7) (v := ?_) (some 89) rfl (by kernel_rfl) (by kernel_rfl) (by kernel_rfl) (by kernel_rfl) (fun _ _ _ h => h) (Or.inl ⟨by kernel_rfl, ?_⟩) hHeld ?_
                       rotate_left
                       · intro w' hSw; clear hSw
                         go_simp; with_reducible rfl
                       (try simp only [Act.put, List.setIfInBounds_toArray, List.set_cons_zero, List.set_cons_succ, i64_w, i32_w])
                       refine wpAnyH_take_d (i := 8) (v := ?_) (some 90) rfl (by kernel_rfl) (by kernel_rfl) (by kernel_rfl) (by kernel_rfl) (fun _ _ _ h => h) (Or.inl ⟨by kernel_rfl, ?_⟩) hHeld ?_
                       rotate_left
                       · intro w' hSw; clear hSw
                         go_simp; with_reducible rfl
                       (try simp only [Act.put, List.setIfInBounds_toArray, List.set_cons_zero, List.set_cons_succ, i64_w, i32_w])
                       refine wpAnyH_take_d (i := 9) (v := ?_) (some 91) rfl (by kernel_rfl) (by kernel_rfl) (by kernel_rfl) (by kernel_rfl) (fun _ _ _ h => h) (Or.inl ⟨by kernel_rfl, ?_⟩) hHeld ?_
                       rotate_left
                       · intro w' hSw; clear hSw
                         go_simp; with_reducible rfl
                       (try simp only [Act.put, List.setIfInBounds_toArray, List.set_cons_zero, List.set_cons_succ, i64_w, i32_w])
                       refine wpAnyH_take_d (i := 10) (v := ?_) (some 92) rfl (by kernel_rfl) (by kernel_rfl) (by kernel_rfl) (by kernel_rfl) (fun _ _ _ h => h) (Or.inl ⟨by kernel_rfl, ?_⟩) hHeld ?_
                       rotate_left
                       · intro w' hSw; clear hSw
                         go_simp; with_reducible rfl
                       (try simp only [Act.put, List.setIfInBounds_toArray, List.set_cons_zero, List.set_cons_succ, i64_w, i32_w])
                       refine wpAnyH_take_d (i := 11) (v := ?_) (some 93) rfl (by kernel_rfl) (by kernel_rfl) (by kernel_rfl) (by kernel_rfl) (fun _ _ _ h => h) (Or.inl ⟨by kernel_rfl, ?_⟩) hHeld ?_
                       rotate_left
                       · intro w' hSw; clear hSw
                         go_simp; with_reducible rfl
                       (try simp only [Act.put, List.setIfInBounds_toArray, List.set_cons_zero, List.set_cons_succ, i64_w, i32_w])
                       refine wpAnyH_take_d (i := 12) (v := ?_) (some 94) rfl (by kernel_rfl) (by kernel_rfl) (by kernel_rfl) (by kernel_rfl) (fun _ _ _ h => h) (Or.inl ⟨by kernel_rfl, ?_⟩) hHeld ?_
                       rotate_left
                       · intro w' hSw; clear hSw
                         go_simp; with_reducible rfl
                       (try simp only [Act.put, List.setIfInBounds_toArray, List.set_cons_zero, List.set_cons_succ, i64_w, i32_w])
                       refine wpAnyH_take_d (i := 14) (v := ?_) (some 96) rfl (by kernel_rfl) (by kernel_rfl) (by kernel_rfl) (by kernel_rfl) (fun _ _ _ h => h) (Or.inl ⟨by kernel_rfl, ?_⟩) hHeld ?_
                       rotate_left
                       · intro w' hSw; clear hSw
                         go_simp; with_reducible rfl
                       (try simp only [Act.put, List.setIfInBounds_toArray, List.set_cons_zero, List.set_cons_succ, i64_w, i32_w])
                       refine wpAnyH_take_d (i := 15) (v := ?_) (some 97) rfl (by kernel_rfl) (by kernel_rfl) (by kernel_rfl) (by kernel_rfl) (fun _ _ _ h => h) (Or.inl ⟨by kernel_rfl, ?_⟩) hHeld ?_
                       rotate_left
                       · intro w' hSw; clear hSw
                         go_simp; with_reducible rfl
                       (try simp only [Act.put, List.setIfInBounds_toArray, List.set_cons_zero, List.set_cons_succ, i64_w, i32_w])
                       refine wpAnyH_take_d (i := 16) (v := ?_) (some 98) rfl (by kernel_rfl) (by kernel_rfl) (by kernel_rfl) (by kernel_rfl) (fun _ _ _ h => h) (Or.inl ⟨by kernel_rfl, ?_⟩) hHeld ?_
                       rotate_left
                       · intro w' hSw; clear hSw
                         go_simp; with_reducible rfl
                       (try simp only [Act.put, List.setIfInBounds_toArray, List.set_cons_zero, List.set_cons_succ, i64_w, i32_w])
                       refine wpAnyH_take_d (i := 17) (v := ?_) (some 99) rfl (by kernel_rfl) (by kernel_rfl) (by kernel_rfl) (by kernel_rfl) (fun _ _ _ h => h) (Or.inl ⟨by kernel_rfl, ?_⟩) hHeld ?_
                       rotate_left
                       · intro w' hSw; clear hSw
                         go_simp; with_reducible rfl
                       (try simp only [Act.put, List.setIfInBounds_toArray, List.set_cons_zero, List.set_cons_succ, i64_w, i32_w])
                       refine wpAnyH_take_d (i := 19) (v := ?_) (some 101) rfl (by kernel_rfl) (by kernel_rfl) (by kernel_rfl) (by kernel_rfl) (fun _ _ _ h => h) (Or.inl ⟨by kernel_rfl, ?_⟩) hHeld ?_
                       rotate_left
                       · intro w' hSw; clear hSw
                         go_simp; with_reducible rfl
                       (try simp only [Act.put, List.setIfInBounds_toArray, List.set_cons_zero, List.set_cons_succ, i64_w, i32_w])
                       refine wpAnyH_take_d (i := 21) (v := ?_) (some 103) rfl (by kernel_rfl) (by kernel_rfl) (by kernel_rfl) (by kernel_rfl) (fun _ _ _ h => h) (Or.inl ⟨by kernel_rfl, ?_⟩) hHeld ?_
                       rotate_left
                       · intro w' hSw; clear hSw
                         go_simp; with_reducible rfl
                       (try simp only [Act.put, List.setIfInBounds_toArray, List.set_cons_zero, List.set_cons_succ, i64_w, i32_w])
                       refine wpAnyH_take_d (i := 22) (v := ?_) (some 104) rfl (by kernel_rfl) (by kernel_rfl) (by kernel_rfl) (by kernel_rfl) (fun _ _ _ h => h) (Or.inl ⟨by kernel_rfl, ?_⟩) hHeld ?_
                       rotate_left
                       · intro w' hSw; clear hSw
                         go_simp; with_reducible rfl
                       (try simp only [Act.put, List.setIfInBounds_toArray, List.set_cons_zero, List.set_cons_succ, i64_w, i32_w])
                       refine wpAnyH_take_d (i := 24) (v := ?_) (some 106) rfl (by kernel_rfl) (by kernel_rfl) (by kernel_rfl) (by kernel_rfl) (fun _ _ _ h => h) (Or.inl ⟨by kernel_rfl, ?_⟩) hHeld ?_
                       rotate_left
                       · intro w' hSw; clear hSw
                         go_simp; with_reducible rfl
                       (try simp only [Act.put, List.setIfInBounds_toArray, List.set_cons_zero, List.set_cons_succ, i64_w, i32_w])
                       refine wpAnyH_take_d (i := 27) (v := ?_) (some 109) rfl (by kernel_rfl) (by kernel_rfl) (by kernel_rfl) (by kernel_rfl) (fun _ _ _ h => h) (Or.inl ⟨by kernel_rfl, ?_⟩) hHeld ?_
                       rotate_left
                       · intro w' hSw; clear hSw
                         go_simp; with_reducible rfl
                       (try simp only [Act.put, List.setIfInBounds_toArray, List.set_cons_zero, List.set_cons_succ, i64_w, i32_w])
                       refine wpAnyH_take_d (i := 13) (v := ?_) (some 95) rfl (by kernel_rfl) (by kernel_rfl) (by kernel_rfl) (by kernel_rfl) (fun _ _ _ h => h) (Or.inl ⟨by kernel_rfl, ?_⟩) hHeld ?_
                       rotate_left
                       · rintro w' ⟨s0, s1, s2, s3⟩
                         go_simp; with_reducible rfl
                       (try simp only [Act.put, List.setIfInBounds_toArray, List.set_cons_zero, List.set_cons_succ, i64_w, i32_w])
                       refine wpAnyH_take_d (i := 18) (v := ?_) (some 100) rfl (by kernel_rfl) (by kernel_rfl) (by kernel_rfl) (by kernel_rfl) (fun _ _ _ h => h) (Or.inl ⟨by kernel_rfl, ?_⟩) hHeld ?_
                       rotate_left
                       · rintro w' ⟨s0, s1, s2, s3⟩
                         go_simp; with_reducible rfl
                       (try simp only [Act.put, List.setIfInBounds_toArray, List.set_cons_zero, List.set_cons_succ, i64_w, i32_w])
                       refine wpAnyH_take_d (i := 20) (v := ?_) (some 102) rfl (by kernel_rfl) (by kernel_rfl) (by kernel_rfl) (by kernel_rfl) (fun _ _ _ h => h) (Or.inl ⟨by kernel_rfl, ?_⟩) hHeld ?_
                       rotate_left
                       · intro w' hSw; clear hSw
                         go_simp; with_reducible rfl
                       (try simp only [Act.put, List.setIfInBounds_toArray, List.set_cons_zero, List.set_cons_succ, i64_w, i32_w])
                       refine wpAnyH_ready (rs := [23]) (by kernel_rfl) (by simp) ?_
                       refine AllReadyH.cons rfl (fun K hK => ?_) AllReadyH.nil
                       go_simp
                       (try simp only [i64_w])
                       refine (spec_l12Reach.calls k4 _ _ l0 ((rd_T67 ((rd_T51 l0 x15_1).f1) x18_4).f0) (wrap64 (((rd_T67 ((rd_T51 l0 x15_1).f1) x18_4).f1) + a4)) a4 a5 t215 _ (Kd.C_below HR0.out (below_step HB.out (ks_b hHeld))) HC0.out A26.out).mono ?_
                       rintro e w31 ⟨v_, rfl, ho0, hb⟩
                       obtain ⟨A_, c_, rfl⟩ := Kd.R_slice ho0
                       obtain ⟨ad_, e_, hx_⟩ := Kd.at_int (Kd.R_reads' ho0).2.2 a2 P_ Q_
                       cases e_
                       refine hK.out _ _ (ks_all hx212_0 hx212_1 hx212_2 (ks_step hb hHeld)) (fun hHeld2 => ?_)
                       clear hK K
                       (try simp only [Act.put, List.setIfInBounds_toArray, List.set_cons_zero, List.set_cons_succ, i64_w, i32_w])
                       refine wpAnyH_take_d (i := 25) (v := ?_) (some 107) rfl (by kernel_rfl) (by kernel_rfl) (by kernel_rfl) (by kernel_rfl) (fun _ _ _ h => h) (Or.inl ⟨by kernel_rfl, ?_⟩) hHeld2 ?_
                       rotate_left
                       · intro w' hSw; clear hSw
                         go_simp; with_reducible rfl
                       (try simp only [Act.put, List.setIfInBounds_toArray, List.set_cons_zero, List.set_cons_succ, i64_w, i32_w])
                       refine wpAnyH_ready (rs := [26]) (by kernel_rfl) (by simp) ?_
                       refine AllReadyH.cons rfl (fun K hK => ?_) AllReadyH.nil
                       go_simp
                       refine hK.out _ _ hHeld2 (fun hHeld3 => ?_)
                       clear hK K
                       (try simp only [Act.put, List.setIfInBounds_toArray, List.set_cons_zero, List.set_cons_succ, i64_w, i32_w])
                       refine wpAnyH_take_d (i := 28) (v := ?_) (some 110) rfl (by kernel_rfl) (by kernel_rfl) (by kernel_rfl) (by kernel_rfl) (fun _ _ _ h => h) (Or.inl ⟨by kernel_rfl, ?_⟩) hHeld2 ?_
                       rotate_left
                       · intro w' hSw; clear hSw
                         go_simp; with_reducible rfl
                       (try simp only [Act.put, List.setIfInBounds_toArray, List.set_cons_zero, List.set_cons_succ, i64_w, i32_w])
                       refine wpAnyH_take_d (i := 29) (v := ?_) (some 111) rfl (by kernel_rfl) (by kernel_rfl) (by kernel_rfl) (by kernel_rfl) (fun _ _ _ h => h) (Or.inl ⟨by kernel_rfl, ?_⟩) hHeld2 ?_
                       rotate_left
                       · intro w' hSw; clear hSw
                         go_simp; with_reducible rfl
                       (try simp only [Act.put, List.setIfInBounds_toArray, List.set_cons_zero, List.set_cons_succ, i64_w, i32_w])
                       refine wpAnyH_done (by kernel_rfl) ?_ _
                       have hbw_ : Below wr.heap.size wr w31 := ks_b hHeld2
                       have n0_ := Aside0.mk (blk_below BK206.out hbw_)
                       have n1_ := Aside0.mk (below_step HB.out hbw_)
                       clear BK206 HB hHeld hHeld2 hHeld3; have BK206 := n0_; have HB := n1_; clear n0_ n1_
                       have hcz33_0 : w31.cell? ⟨gb206, 0, none⟩ = some (.int .i64 x207000_4) := (blk_cell BK206.out 0).trans rfl
                       have hcz33_1 : w31.cell? ⟨gb206, 1, none⟩ = some (.int .i64 x207001_4) := (blk_cell BK206.out 1).trans rfl
                       have hcz33_2 : w31.cell? ⟨gb206, 2, none⟩ = some (.int .i64 x207002_4) := (blk_cell BK206.out 2).trans rfl
                       have hfz33_0 := blk_frozen BK206.out 0
                       have hfz33_1 := blk_frozen BK206.out 1
                       have hfz33_2 := blk_frozen BK206.out 2
                       try go_wp2
                       refine bodyPost_ret (results_cell_row rfl _ _ gb206 72 #[.int .i64 x15_1, .int .i64 x17_2, .int .i64 x18_4] (0, 0) _ rfl (by (with_reducible repeat (first | refine blk_drewN ?_ _ | refine blk_drew ?_ | refine blk_alloc ?_ _)); refine blk_put (cs := #[.int .i64 x15_1, .int .i64 x17_2, .int .i64 x207002_4]) ?_ 2 _ rfl; (with_reducible repeat (first | refine blk_drewN ?_ _ | refine blk_drew ?_ | refine blk_alloc ?_ _)); refine blk_put (cs := #[.int .i64 x15_1, .int .i64 x207001_4, .int .i64 x207002_4]) ?_ 1 _ rfl; (with_reducible repeat (first | refine blk_drewN ?_ _ | refine blk_drew ?_ | refine blk_alloc ?_ _)); refine blk_put (cs := #[.int .i64 x207000_4, .int .i64 x207001_4, .int .i64 x207002_4]) ?_ 0 _ rfl; (with_reducible repeat (first | refine blk_drewN ?_ _ | refine blk_drew ?_ | refine blk_alloc ?_ _)); exact BK206.out) Try.underlying72 rfl (by kernel_rfl)) rfl ?_
                       exact ⟨by first | rfl | (simp [errW_none, errW_some] <;> rfl) | (simp [*, errW_none, errW_some] <;> first | rfl | (simp [wrap64]; done)), nH1 HB.out GE206.out⟩
                     · rw [if_neg c29] at H
                       have c29b0 : ((rd t215 a2) == a6) = false := beq_eq_false_iff_ne.mpr c29
                       have c29b1 : ((rd t215 a2) != a6) = true := bne_iff_ne.mpr c29
                       have H' := Aside0.mk H
                       clear H
                       try go_wp2
                       have p212 : 0 ≤ (x18_4 : Int) := of_decide_eq_true nQ
                       have q212 : x18_4 < (((rd_T51 l0 x15_1).f1).length : Int) := of_decide_eq_true nQ
                       obtain ⟨ad212, e212, hx212_0, hx212_1, hx212_2⟩ := at_T67 HR207_1.out x18_4 p212 q212
                       have hw212_2 := hx212_2; have hw212_1 := hx212_1; have hw212_0 := hx212_0; cases e212
                       replace hx212_0 := (HB.out.cell (World.block_lt_of_cell? w _ hx212_0)).trans hx212_0
                       replace hx212_1 := (HB.out.cell (World.block_lt_of_cell? w _ hx212_1)).trans hx212_1
                       replace hx212_2 := (HB.out.cell (World.block_lt_of_cell? w _ hx212_2)).trans hx212_2
                       replace p212 := eq_true p212; replace q212 := eq_true q212
                       have P_ : 0 ≤ (a2 : Int) := of_decide_eq_true nQ
                       have Q_ : a2 < (t215.length : Int) := of_decide_eq_true nQ
                       refine wp_region_held_drew (S := fun w' => w'.cell? (ad212.add ((x18_4).toNat * 3)) = some (.int .i64 ((rd_T67 ((rd_T51 l0 x15_1).f1) x18_4).f0)) ∧ w'.cell? ⟨(ad212.add ((x18_4).toNat * 3)).block, (ad212.add ((x18_4).toNat * 3)).off + 1, none⟩ = some (.int .i64 ((rd_T67 ((rd_T51 l0 x15_1).f1) x18_4).f1)) ∧ w'.cell? ⟨(ad212.add ((x18_4).toNat * 3)).block, (ad212.add ((x18_4).toNat * 3)).off + 2, none⟩ = some (.int .i64 ((rd_T67 ((rd_T51 l0 x15_1).f1) x18_4).f2)) ∧ Below wr.heap.size wr w') (by kernel_rfl) (ks_all hx212_0 hx212_1 hx212_2 (below_drew1 (Below.refl _ _))) (fun hHeld => ?_)
                       refine wpAnyH_take_d (i := 0) (v := ?_) (some 82) rfl (by kernel_rfl) (by kernel_rfl) (by kernel_rfl) (by kernel_rfl) (fun _ _ _ h => h) (Or.inl ⟨by kernel_rfl, ?_⟩) hHeld ?_
                       rotate_left
                       · intro w' hSw; clear hSw
                         go_simp; with_reducible rfl
                       (try simp only [Act.put, List.setIfInBounds_toArray, List.set_cons_zero, List.set_cons_succ, i64_w, i32_w])
                       refine wpAnyH_take_d (i := 1) (v := ?_) (some 83) rfl (by kernel_rfl) (by kernel_rfl) (by kernel_rfl) (by kernel_rfl) (fun _ _ _ h => h) (Or.inl ⟨by kernel_rfl, ?_⟩) hHeld ?_
                       rotate_left
                       · intro w' hSw; clear hSw
                         go_simp; with_reducible rfl
                       (try simp only [Act.put, List.setIfInBounds_toArray, List.set_cons_zero, List.set_cons_succ, i64_w, i32_w])
                       refine wpAnyH_take_d (i := 2) (v := ?_) (some 84) rfl (by kernel_rfl) (by kernel_rfl) (by kernel_rfl) (by kernel_rfl) (fun _ _ _ h => h) (Or.inl ⟨by kernel_rfl, ?_⟩) hHeld ?_
                       rotate_left
                       · intro w' hSw; clear hSw
                         go_simp; with_reducible rfl
                       (try simp only [Act.put, List.setIfInBounds_toArray, List.set_cons_zero, List.set_cons_succ, i64_w, i32_w])
                       refine wpAnyH_take_d (i := 3) (v := ?_) (some 85) rfl (by kernel_rfl) (by kernel_rfl) (by kernel_rfl) (by kernel_rfl) (fun _ _ _ h => h) (Or.inl ⟨by kernel_rfl, ?_⟩) hHeld ?_
                       rotate_left
                       · intro w' hSw; clear hSw
                         go_simp; with_reducible rfl
                       (try simp only [Act.put, List.setIfInBounds_toArray, List.set_cons_zero, List.set_cons_succ, i64_w, i32_w])
                       refine wpAnyH_take_d (i := 5) (v := ?_) (some 87) rfl (by kernel_rfl) (by kernel_rfl) (by kernel_rfl) (by kernel_rfl) (fun _ _ _ h => h) (Or.inl ⟨by kernel_rfl, ?_⟩) hHeld ?_
                       rotate_left
                       · intro w' hSw; clear hSw
                         go_simp; with_reducible rfl
                       (try simp only [Act.put, List.setIfInBounds_toArray, List.set_cons_zero, List.set_cons_succ, i64_w, i32_w])
                       refine wpAnyH_take_d (i := 4) (v := ?_) (some 86) rfl (by kernel_rfl) (by kernel_rfl) (by kernel_rfl) (by kernel_rfl) (fun _ _ _ h => h) (Or.inl ⟨by kernel_rfl, ?_⟩) hHeld ?_
                       rotate_left
                       · rintro w' ⟨s0, s1, s2, s3⟩
                         go_simp; with_reducible rfl
                       (try simp only [Act.put, List.setIfInBounds_toArray, List.set_cons_zero, List.set_cons_succ, i64_w, i32_w])
                       refine wpAnyH_take_d (i := 6) (v := ?_) (some 88) rfl (by kernel_rfl) (by kernel_rfl) (by kernel_rfl) (by kernel_rfl) (fun _ _ _ h => h) (Or.inl ⟨by kernel_rfl, ?_⟩) hHeld ?_
                       rotate_left
                       · intro w' hSw; clear hSw
                         go_simp; with_reducible rfl
                       (try simp only [Act.put, List.setIfInBounds_toArray, List.set_cons_zero, List.set_cons_succ, i64_w, i32_w])
                       refine wpAnyH_take_d (i := 7) (v := ?_) (some 89) rfl (by kernel_rfl) (by kernel_rfl) (by kernel_rfl) (by kernel_rfl) (fun _ _ _ h => h) (Or.inl ⟨by kernel_rfl, ?_⟩) hHeld ?_
                       rotate_left
                       · intro w' hSw; clear hSw
                         go_simp; with_reducible rfl
                       (try simp only [Act.put, List.setIfInBounds_toArray, List.set_cons_zero, List.set_cons_succ, i64_w, i32_w])
                       refine wpAnyH_take_d (i := 8) (v := ?_) (some 90) rfl (by kernel_rfl) (by kernel_rfl) (by kernel_rfl) (by kernel_rfl) (fun _ _ _ h => h) (Or.inl ⟨by kernel_rfl, ?_⟩) hHeld ?_
                       rotate_left
                       · intro w' hSw; clear hSw
                         go_simp; with_reducible rfl
                       (try simp only [Act.put, List.setIfInBounds_toArray, List.set_cons_zero, List.set_cons_succ, i64_w, i32_w])
                       refine wpAnyH_take_d (i := 9) (v := ?_) (some 91) rfl (by kernel_rfl) (by kernel_rfl) (by kernel_rfl) (by kernel_rfl) (fun _ _ _ h => h) (Or.inl ⟨by kernel_rfl, ?_⟩) hHeld ?_
                       rotate_left
                       · intro w' hSw; clear hSw
                         go_simp; with_reducible rfl
                       (try simp only [Act.put, List.setIfInBounds_toArray, List.set_cons_zero, List.set_cons_succ, i64_w, i32_w])
                       refine wpAnyH_take_d (i := 10) (v := ?_) (some 92) rfl (by kernel_rfl) (by kernel_rfl) (by kernel_rfl) (by kernel_rfl) (fun _ _ _ h => h) (Or.inl ⟨by kernel_rfl, ?_⟩) hHeld ?_
                       rotate_left
                       · intro w' hSw; clear hSw
                         go_simp; with_reducible rfl
                       (try simp only [Act.put, List.setIfInBounds_toArray, List.set_cons_zero, List.set_cons_succ, i64_w, i32_w])
                       refine wpAnyH_take_d (i := 11) (v := ?_) (some 93) rfl (by kernel_rfl) (by kernel_rfl) (by kernel_rfl) (by kernel_rfl) (fun _ _ _ h => h) (Or.inl ⟨by kernel_rfl, ?_⟩) hHeld ?_
                       rotate_left
                       · intro w' hSw; clear hSw
                         go_simp; with_reducible rfl
                       (try simp only [Act.put, List.setIfInBounds_toArray, List.set_cons_zero, List.set_cons_succ, i64_w, i32_w])
                       refine wpAnyH_take_d (i := 12) (v := ?_) (some 94) rfl (by kernel_rfl) (by kernel_rfl) (by kernel_rfl) (by kernel_rfl) (fun _ _ _ h => h) (Or.inl ⟨by kernel_rfl, ?_⟩) hHeld ?_
                       rotate_left
                       · intro w' hSw; clear hSw
                         go_simp; with_reducible rfl
                       (try simp only [Act.put, List.setIfInBounds_toArray, List.set_cons_zero, List.set_cons_succ, i64_w, i32_w])
                       refine wpAnyH_take_d (i := 14) (v := ?_) (some 96) rfl (by kernel_rfl) (by kernel_rfl) (by kernel_rfl) (by kernel_rfl) (fun _ _ _ h => h) (Or.inl ⟨by kernel_rfl, ?_⟩) hHeld ?_
                       rotate_left
                       · intro w' hSw; clear hSw
                         go_simp; with_reducible rfl
                       (try simp only [Act.put, List.setIfInBounds_toArray, List.set_cons_zero, List.set_cons_succ, i64_w, i32_w])
                       refine wpAnyH_take_d (i := 15) (v := ?_) (some 97) rfl (by kernel_rfl) (by kernel_rfl) (by kernel_rfl) (by kernel_rfl) (fun _ _ _ h => h) (Or.inl ⟨by kernel_rfl, ?_⟩) hHeld ?_
                       rotate_left
                       · intro w' hSw; clear hSw
                         go_simp; with_reducible rfl
                       (try simp only [Act.put, List.setIfInBounds_toArray, List.set_cons_zero, List.set_cons_succ, i64_w, i32_w])
                       refine wpAnyH_take_d (i := 16) (v := ?_) (some 98) rfl (by kernel_rfl) (by kernel_rfl) (by kernel_rfl) (by kernel_rfl) (fun _ _ _ h => h) (Or.inl ⟨by kernel_rfl, ?_⟩) hHeld ?_
                       rotate_left
                       · intro w' hSw; clear hSw
                         go_simp; with_reducible rfl
                       (try simp only [Act.put, List.setIfInBounds_toArray, List.set_cons_zero, List.set_cons_succ, i64_w, i32_w])
                       refine wpAnyH_take_d (i := 17) (v := ?_) (some 99) rfl (by kernel_rfl) (by kernel_rfl) (by kernel_rfl) (by kernel_rfl) (fun _ _ _ h => h) (Or.inl ⟨by kernel_rfl, ?_⟩) hHeld ?_
                       rotate_left
                       · intro w' hSw; clear hSw
                         go_simp; with_reducible rfl
                       (try simp only [Act.put, List.setIfInBounds_toArray, List.set_cons_zero, List.set_cons_succ, i64_w, i32_w])
                       refine wpAnyH_take_d (i := 19) (v := ?_) (some 101) rfl (by kernel_rfl) (by kernel_rfl) (by kernel_rfl) (by kernel_rfl) (fun _ _ _ h => h) (Or.inl ⟨by kernel_rfl, ?_⟩) hHeld ?_
                       rotate_left
                       · intro w' hSw; clear hSw
                         go_simp; with_reducible rfl
                       (try simp only [Act.put, List.setIfInBounds_toArray, List.set_cons_zero, List.set_cons_succ, i64_w, i32_w])
                       refine wpAnyH_take_d (i := 21) (v := ?_) (some 103) rfl (by kernel_rfl) (by kernel_rfl) (by kernel_rfl) (by kernel_rfl) (fun _ _ _ h => h) (Or.inl ⟨by kernel_rfl, ?_⟩) hHeld ?_
                       rotate_left
                       · intro w' hSw; clear hSw
                         go_simp; with_reducible rfl
                       (try simp only [Act.put, List.setIfInBounds_toArray, List.set_cons_zero, List.set_cons_succ, i64_w, i32_w])
                       refine wpAnyH_take_d (i := 22) (v := ?_) (some 104) rfl (by kernel_rfl) (by kernel_rfl) (by kernel_rfl) (by kernel_rfl) (fun _ _ _ h => h) (Or.inl ⟨by kernel_rfl, ?_⟩) hHeld ?_
                       rotate_left
                       · intro w' hSw; clear hSw
                         go_simp; with_reducible rfl
                       (try simp only [Act.put, List.setIfInBounds_toArray, List.set_cons_zero, List.set_cons_succ, i64_w, i32_w])
                       refine wpAnyH_take_d (i := 24) (v := ?_) (some 106) rfl (by kernel_rfl) (by kernel_rfl) (by kernel_rfl) (by kernel_rfl) (fun _ _ _ h => h) (Or.inl ⟨by kernel_rfl, ?_⟩) hHeld ?_
                       rotate_left
                       · intro w' hSw; clear hSw
                         go_simp; with_reducible rfl
                       (try simp only [Act.put, List.setIfInBounds_toArray, List.set_cons_zero, List.set_cons_succ, i64_w, i32_w])
                       refine wpAnyH_take_d (i := 27) (v := ?_) (some 109) rfl (by kernel_rfl) (by kernel_rfl) (by kernel_rfl) (by kernel_rfl) (fun _ _ _ h => h) (Or.inl ⟨by kernel_rfl, ?_⟩) hHeld ?_
                       rotate_left
                       · intro w' hSw; clear hSw
                         go_simp; with_reducible rfl
                       (try simp only [Act.put, List.setIfInBounds_toArray, List.set_cons_zero, List.set_cons_succ, i64_w, i32_w])
                       refine wpAnyH_take_d (i := 13) (v := ?_) (some 95) rfl (by kernel_rfl) (by kernel_rfl) (by kernel_rfl) (by kernel_rfl) (fun _ _ _ h => h) (Or.inl ⟨by kernel_rfl, ?_⟩) hHeld ?_
                       rotate_left
                       · rintro w' ⟨s0, s1, s2, s3⟩
                         go_simp; with_reducible rfl
                       (try simp only [Act.put, List.setIfInBounds_toArray, List.set_cons_zero, List.set_cons_succ, i64_w, i32_w])
                       refine wpAnyH_take_d (i := 18) (v := ?_) (some 100) rfl (by kernel_rfl) (by kernel_rfl) (by kernel_rfl) (by kernel_rfl) (fun _ _ _ h => h) (Or.inl ⟨by kernel_rfl, ?_⟩) hHeld ?_
                       rotate_left
                       · rintro w' ⟨s0, s1, s2, s3⟩
                         go_simp; with_reducible rfl
                       (try simp only [Act.put, List.setIfInBounds_toArray, List.set_cons_zero, List.set_cons_succ, i64_w, i32_w])
                       refine wpAnyH_take_d (i := 20) (v := ?_) (some 102) rfl (by kernel_rfl) (by kernel_rfl) (by kernel_rfl) (by kernel_rfl) (fun _ _ _ h => h) (Or.inl ⟨by kernel_rfl, ?_⟩) hHeld ?_
                       rotate_left
                       · intro w' hSw; clear hSw
                         go_simp; with_reducible rfl
                       (try simp only [Act.put, List.setIfInBounds_toArray, List.set_cons_zero, List.set_cons_succ, i64_w, i32_w])
                       refine wpAnyH_ready (rs := [23]) (by kernel_rfl) (by simp) ?_
                       refine AllReadyH.cons rfl (fun K hK => ?_) AllReadyH.nil
                       go_simp
                       (try simp only [i64_w])
                       refine (spec_l12Reach.calls k4 _ _ l0 ((rd_T67 ((rd_T51 l0 x15_1).f1) x18_4).f0) (wrap64 (((rd_T67 ((rd_T51 l0 x15_1).f1) x18_4).f1) + a4)) a4 a5 t215 _ (Kd.C_below HR0.out (below_step HB.out (ks_b hHeld))) HC0.out A26.out).mono ?_
                       rintro e w35 ⟨v_, rfl, ho0, hb⟩
                       obtain ⟨A_, c_, rfl⟩ := Kd.R_slice ho0
                       obtain ⟨ad_, e_, hx_⟩ := Kd.at_int (Kd.R_reads' ho0).2.2 a2 P_ Q_
                       cases e_
                       refine hK.out _ _ (ks_all hx212_0 hx212_1 hx212_2 (ks_step hb hHeld)) (fun hHeld2 => ?_)
                       clear hK K
                       (try simp only [Act.put, List.setIfInBounds_toArray, List.set_cons_zero, List.set_cons_succ, i64_w, i32_w])
                       refine wpAnyH_take_d (i := 25) (v := ?_) (some 107) rfl (by kernel_rfl) (by kernel_rfl) (by kernel_rfl) (by kernel_rfl) (fun _ _ _ h => h) (Or.inl ⟨by kernel_rfl, ?_⟩) hHeld2 ?_
                       rotate_left
                       · intro w' hSw; clear hSw
                         go_simp; with_reducible rfl
                       (try simp only [Act.put, List.setIfInBounds_toArray, List.set_cons_zero, List.set_cons_succ, i64_w, i32_w])
                       refine wpAnyH_ready (rs := [26]) (by kernel_rfl) (by simp) ?_
                       refine AllReadyH.cons rfl (fun K hK => ?_) AllReadyH.nil
                       go_simp
                       refine hK.out _ _ hHeld2 (fun hHeld3 => ?_)
                       clear hK K
                       (try simp only [Act.put, List.setIfInBounds_toArray, List.set_cons_zero, List.set_cons_succ, i64_w, i32_w])
                       refine wpAnyH_take_d (i := 28) (v := ?_) (some 110) rfl (by kernel_rfl) (by kernel_rfl) (by kernel_rfl) (by kernel_rfl) (fun _ _ _ h => h) (Or.inl ⟨by kernel_rfl, ?_⟩) hHeld2 ?_
                       rotate_left
                       · intro w' hSw; clear hSw
                         go_simp; with_reducible rfl
                       (try simp only [Act.put, List.setIfInBounds_toArray, List.set_cons_zero, List.set_cons_succ, i64_w, i32_w])
                       refine wpAnyH_take_d (i := 29) (v := ?_) (some 111) rfl (by kernel_rfl) (by kernel_rfl) (by kernel_rfl) (by kernel_rfl) (fun _ _ _ h => h) (Or.inl ⟨by kernel_rfl, ?_⟩) hHeld2 ?_
                       rotate_left
                       · intro w' hSw; clear hSw
                         go_simp; with_reducible rfl
                       (try simp only [Act.put, List.setIfInBounds_toArray, List.set_cons_zero, List.set_cons_succ, i64_w, i32_w])
                       refine wpAnyH_done (by kernel_rfl) ?_ _
                       have hbw_ : Below wr.heap.size wr w35 := ks_b hHeld2
                       have n0_ := Aside0.mk (blk_below BK206.out hbw_)
                       have n1_ := Aside0.mk (below_step HB.out hbw_)
                       clear BK206 HB hHeld hHeld2 hHeld3; have BK206 := n0_; have HB := n1_; clear n0_ n1_
                       try go_wp2
                       go_roundg k4
                       case measure => have := HK1.out; have := HK2.out; have := HJ11.out; have := HK4.out; omega
                       case rel => exact ⟨(wrap64 (x18_4 + 1)), (x207000_4), (x207001_4), (x207002_4), nS, H', ⟨by have := HK1.out; have := HK2.out; have := HJ11.out; have := HK4.out; omega⟩, ⟨by (with_reducible repeat (first | refine blk_drewN ?_ _ | refine blk_drew ?_ | refine blk_alloc ?_ _)); exact BK206.out⟩, ⟨nH1 HB.out GE206.out⟩⟩
               · rw [if_neg c16] at H
                 have c16b0 : decide (x18_4 < (((rd_T51 l0 x15_1).f1).length : Int)) = false := decide_eq_false c16
                 clear c16
                 have H' := Aside0.mk H
                 clear H; go_wp2
                 go_roundg k4
                 case measure => have := HK1.out; have := HK2.out; have := HJ11.out; have := HK4.out; omega
                 case rel => exact ⟨(wrap64 (x17_2 + 1)), (x207000_4), (x207001_4), (x207002_4), nS, H', ⟨by have := HK1.out; have := HK2.out; have := HJ11.out; have := HK4.out; omega⟩, ⟨by (with_reducible repeat (first | refine blk_drewN ?_ _ | refine blk_drew ?_ | refine blk_alloc ?_ _)); exact BK206.out⟩, ⟨nH1 HB.out GE206.out⟩⟩
       · rw [if_neg c11] at H
         have c11b0 : decide (x17_2 < (((rd_T51 l0 x15_1).f1).length : Int)) = false := decide_eq_false c11
         clear c11
         have H' := Aside0.mk H
         clear H; go_wp2
         go_roundg k2
         case measure => have := HK1.out; have := HK2.out; omega
         case rel => exact ⟨(wrap64 (x15_1 + 1)), (x207000_2), (x207001_2), (x207002_2), nS, H', ⟨by have := HK1.out; have := HK2.out; omega⟩, ⟨by (with_reducible repeat (first | refine blk_drewN ?_ _ | refine blk_drew ?_ | refine blk_alloc ?_ _)); exact BK206.out⟩, ⟨nH1 HB.out GE206.out⟩⟩
   · rw [if_neg c9] at H
     have c9b0 : decide (x15_1 < (l0.length : Int)) = false := decide_eq_false c9
     clear c9
     simp only [Option.some.injEq, Prod.mk.injEq] at H
     obtain ⟨rfl, rfl, rfl⟩ := H
     have hcz37_0 : wr.cell? ⟨gb206, 0, none⟩ = some (.int .i64 x207000_1) := (blk_cell BK206.out 0).trans rfl
     have hcz37_1 : wr.cell? ⟨gb206, 1, none⟩ = some (.int .i64 x207001_1) := (blk_cell BK206.out 1).trans rfl
     have hcz37_2 : wr.cell? ⟨gb206, 2, none⟩ = some (.int .i64 x207002_1) := (blk_cell BK206.out 2).trans rfl
     have hfz37_0 := blk_frozen BK206.out 0
     have hfz37_1 := blk_frozen BK206.out 1
     have hfz37_2 := blk_frozen BK206.out 2
     go_wp2
     refine bodyPost_ret (results_cell_row rfl _ _ gb206 72 #[.int .i64 0, .int .i64 0, .int .i64 0] (0, 0) _ rfl (by (with_reducible repeat (first | refine blk_drewN ?_ _ | refine blk_drew ?_ | refine blk_alloc ?_ _)); refine blk_put (cs := #[.int .i64 0, .int .i64 0, .int .i64 x207002_1]) ?_ 2 _ rfl; (with_reducible repeat (first | refine blk_drewN ?_ _ | refine blk_drew ?_ | refine blk_alloc ?_ _)); refine blk_put (cs := #[.int .i64 0, .int .i64 x207001_1, .int .i64 x207002_1]) ?_ 1 _ rfl; (with_reducible repeat (first | refine blk_drewN ?_ _ | refine blk_drew ?_ | refine blk_alloc ?_ _)); refine blk_put (cs := #[.int .i64 x207000_1, .int .i64 x207001_1, .int .i64 x207002_1]) ?_ 0 _ rfl; (with_reducible repeat (first | refine blk_drewN ?_ _ | refine blk_drew ?_ | refine blk_alloc ?_ _)); exact BK206.out) Try.underlying72 rfl (by kernel_rfl)) rfl ?_
     exact ⟨by first | rfl | (simp [errW_none, errW_some] <;> rfl) | (simp [*, errW_none, errW_some] <;> first | rfl | (simp [wrap64]; done)), nH1 HB.out GE206.out⟩
end Go.Proofs.Ytdpjoblnjjkbfaa.P

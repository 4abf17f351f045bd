/- Contracts of the functions of the program, each one with its plain Lean function; written by a program of the session out of the translation. -/
import Derived.Test.YtnojpcmaalbdhaaDoorPx0
import Derived.Test.YtnojpcmaalbdhaaDoorPx6
namespace Go.Proofs.YtnojpcmaalbdhaaDoor.P
open Go.RowKit Go.Proofs.YtnojpcmaalbdhaaDoorW.PrintWords Go.Proofs.YtnojpcmaalbdhaaDoorW.PrintLast Go.Proofs.YtnojpcmaalbdhaaDoorW.PrintMore
attribute [local go_sem] max2_int min2_int max_two min_two max_three min_three max_four min_four   -- for this text's walks alone
set_option linter.unusedVariables false
set_option linter.unusedSimpArgs false

/-! ### impl_FormOk: function 20, by hand -/
/-- The place of the first unit of which p holds, or -1. -/
def idxU (p : S43 → Bool) (l : List S43) : Int := if l.findIdx p < l.length then (l.findIdx p : Int) else -1

theorem hd_rd_nat (l : List S43) (j : Nat) (h : j < l.length) : rd_T43 l (j : Int) = l[j] := by
  unfold rd_T43; rw [Int.toNat_natCast]; simp [List.getD_eq_getElem?_getD, h]
theorem idxU_hit (p : S43 → Bool) (l : List S43) (n k : Nat) (hk : k < n) (hn : n ≤ l.length) (h : p (rd_T43 l k) = true) (hb : ∀ j, j < k → p (rd_T43 l (j : Int)) = false) : idxU p (l.take n) = (k : Int) := by
  have hk' : k < (l.take n).length := by simp; omega
  have hf : (l.take n).findIdx p = k := by
    rw [List.findIdx_eq hk']
    refine ⟨?_, fun j hj => ?_⟩
    · rw [hd_rd_nat l k (by omega)] at h; simpa using h
    · have := hb j hj; rw [hd_rd_nat l j (by omega)] at this; simpa using this
  unfold idxU; rw [hf, if_pos hk']
theorem idxU_miss (p : S43 → Bool) (l : List S43) (n : Nat) (hn : n ≤ l.length) (hb : ∀ j, j < n → p (rd_T43 l (j : Int)) = false) : idxU p (l.take n) = -1 := by
  have : ¬ (l.take n).findIdx p < (l.take n).length := by
    rw [List.findIdx_lt_length]
    rintro ⟨x, hx, hpx⟩
    obtain ⟨j, hj, rfl⟩ := List.getElem_of_mem hx
    have hj' : j < n := by simp at hj; omega
    have := hb j hj'
    rw [hd_rd_nat l j (by omega)] at this
    simp [this] at hpx
  unfold idxU; rw [if_neg this]
theorem idxU_any (p : S43 → Bool) (l : List S43) : decide (0 ≤ idxU p l) = l.any p := by
  unfold idxU
  cases h : l.any p
  · have : ¬ l.findIdx p < l.length := by
      rw [List.findIdx_lt_length]; intro ⟨x, hx, hp⟩
      have := List.any_eq_true.2 ⟨x, hx, hp⟩; simp [h] at this
    simp [this]
  · have : l.findIdx p < l.length := by
      rw [List.findIdx_lt_length]; exact List.any_eq_true.1 h
    simp [this]

def PredU (lb : Array Value) (p : S43 → Bool) (w : World) : Prop :=
  ∀ (W : World) (x : S43), Below w.heap.size w W → Calls Tryd.prog 43 (#[.agg #[.int .i64 x.f0, .int .i64 x.f1, .int .i64 x.f2, .bool x.f3]] ++ lb) W fun e w' => e = .returned (.bool (p x)) ∧ Below w.heap.size w w'

set_option maxHeartbeats 2000000 in
theorem indexFunc_U (lb : Array Value) (p : S43 → Bool) (A : Option Addr) (n c : Nat) (l : List S43) (w : World)
    (hr : Kd.C k43 w A l.length l) (hn : n ≤ l.length) (hbig : n ≤ 9223372036854775807) (hp : PredU lb p w) :
    Calls Tryd.prog 55 #[.slice A n c, .func (.func 43) #[] lb] w fun e w' => e = .returned (.int .i64 (idxU p (l.take n))) ∧ Below w.heap.size w w' := by
  have hu43 := Tryd.underlying43
  have HR := Aside0.mk hr
  clear hr
  go_enter Tryd.func55, Tryd.ntmps55
  go_wp2
  go_loopg [5, 8] n (fun gg _ s8 wr => ∃ kk : Nat, kk ≤ n ∧ n - kk ≤ gg ∧ s8 = .int .i64 kk ∧ Aside0 (Below w.heap.size w wr) ∧ Aside0 (∀ j, j < kk → p (rd_T43 l j) = false))
  case atStart => exact ⟨0, Nat.zero_le _, by omega, rfl, ⟨Below.refl _ w⟩, ⟨fun j hj => absurd hj (Nat.not_lt_zero _)⟩⟩
  case round =>
    obtain ⟨kk, hkk, hg, rfl, BW, AA⟩ := hrel
    by_cases hlt : kk < n
    · have hltz : (kk : Int) < (n : Int) := by omega
      have hnn : (0 : Int) ≤ (kk : Int) := Int.natCast_nonneg kk
      have hl2 : (kk : Int) < (l.length : Int) := by omega
      obtain ⟨ad, e, hx0, hx1, hx2, hx3⟩ := at_T43 HR.out kk hnn hl2
      cases e
      rw [Int.toNat_natCast] at hx0 hx1 hx2 hx3
      replace hx0 := (BW.out.cell (World.block_lt_of_cell? w _ hx0)).trans hx0
      replace hx1 := (BW.out.cell (World.block_lt_of_cell? w _ hx1)).trans hx1
      replace hx2 := (BW.out.cell (World.block_lt_of_cell? w _ hx2)).trans hx2
      replace hx3 := (BW.out.cell (World.block_lt_of_cell? w _ hx3)).trans hx3
      have hcall := hp wr (rd_T43 l kk) BW.out
      clear hp
      generalize hy : rd_T43 l kk = y at hcall hx0 hx1 hx2 hx3
      have B := Aside0.mk hy
      clear hy
      cases hq : p y with
      | true =>
        rw [hq] at hcall
        go_wp2_with (go_at_call 43; refine hcall.mono ?_; rintro e w' ⟨rfl, hb'⟩)
        go_ret
        refine ⟨?_, hb'⟩
        rw [idxU_hit p l n kk hlt hn (by rw [B.out]; exact hq) AA.out]
        rfl
      | false =>
        rw [hq] at hcall
        go_wp2_with (go_at_call 43; refine hcall.mono ?_; rintro e w' ⟨rfl, hb'⟩)
        go_roundg (n - (kk + 1))
        case measure => omega
        case rel =>
          refine ⟨kk + 1, by omega, by omega, by go_num, ⟨hb'⟩, ⟨fun j hj => ?_⟩⟩
          by_cases e : j = kk
          · subst e
            rw [B.out]; exact hq
          · exact AA.out j (by omega)
    · have hltz : ¬ (kk : Int) < (n : Int) := by omega
      have : kk = n := by omega
      subst this
      go_wp2
      go_ret
      refine ⟨?_, BW.out⟩
      rw [idxU_miss p l kk hn AA.out]
      rfl
set_option maxHeartbeats 2000000 in
theorem containsFunc_U (lb : Array Value) (p : S43 → Bool) (A : Option Addr) (n c : Nat) (l : List S43) (w : World)
    (hr : Kd.C k43 w A l.length l) (hn : n ≤ l.length) (hbig : n ≤ 9223372036854775807) (hp : PredU lb p w) :
    Calls Tryd.prog 42 #[.slice A n c, .func (.func 43) #[] lb] w fun e w' => e = .returned (.bool ((l.take n).any p)) ∧ Below w.heap.size w w' := by
  rw [← idxU_any]
  go_enter Tryd.func42, Tryd.ntmps42
  go_wp2_with (go_at_call 55; refine (indexFunc_U lb p A n c l _ hr hn hbig hp).mono ?_; rintro e w' ⟨rfl, hb'⟩)
  go_ret
  exact ⟨rfl, hb'⟩
/-- The closure of FormOk: the same Id as the captured unit's. -/
theorem pred43 (i : Int) (B : Nat) (w : World) (hB : B < w.heap.size) (hcell : w.cell? ⟨B, 0, none⟩ = some (.int .i64 i)) : PredU #[.pointer (some ⟨B, 0, none⟩)] (fun x => x.f0 == i) w := fun W x hb => by
  have hu43 := Tryd.underlying43
  have hc : W.cell? ⟨B, 0, none⟩ = some (.int .i64 i) := (hb.cell (p := ⟨B, 0, none⟩) hB).trans hcell
  have hBW : B < W.heap.size := Nat.lt_of_lt_of_le hB hb.size
  have hne : B ≠ W.heap.size := by omega
  show Calls Tryd.prog 43 #[.agg #[.int .i64 x.f0, .int .i64 x.f1, .int .i64 x.f2, .bool x.f3], .pointer (some ⟨B, 0, none⟩)] W _
  go_enter Tryd.func43, Tryd.ntmps43
  go_wp2
  all_goals (go_ret; exact ⟨by simp_all, hb.alloc hb.size _⟩)

theorem formB_false (l : List S43) (k : Nat) (hk : k < l.length) (h : impl_FormOk.l1 l k = false) : impl_FormOk.l0 l = false := by
  unfold impl_FormOk.l0
  rw [Bool.and_eq_false_iff]; right
  rw [Bool.eq_false_iff]; intro hall
  have := List.all_eq_true.1 hall k (List.mem_range.2 hk)
  rw [h] at this; cases this
theorem formB_true (l : List S43) (h30 : l.length ≤ 30) (h : ∀ j, j < l.length → impl_FormOk.l1 l j = true) : impl_FormOk.l0 l = true := by
  unfold impl_FormOk.l0
  rw [decide_eq_true h30, Bool.true_and, List.all_eq_true]
  intro j hj; exact h j (List.mem_range.1 hj)
theorem hd_blk_lt {w : World} {g : Nat} {b : _} (h : w.heap[g]? = some b) : g < w.heap.size := (Array.getElem?_eq_some_iff.1 h).1
theorem hd_w64k (k : Nat) (h : k < 31) : wrap64 ((k : Int) + 1) = ((k + 1 : Nat) : Int) := by
  unfold wrap64; omega
theorem hd_btw (a b c : Int) : impl_between.f a b c = some (decide (b ≤ a ∧ a ≤ c)) := by
  unfold impl_between.f
  by_cases h : a ≥ b
  · rw [if_pos h]; simp [show b ≤ a from h]
  · rw [if_neg h]; simp [show ¬ b ≤ a from h]
set_option maxHeartbeats 4000000 in
set_option maxRecDepth 100000 in
theorem impl_FormOk.calls (A0 : Option Addr) (c0 : Nat) (l0 : List (S43)) (r : Bool) (w : World) (hr0 : Kd.C k43 w A0 l0.length l0) (hc0 : l0.length ≤ c0) (h : impl_FormOk.f l0 = some r) :
    Calls Tryd.prog 20 #[.slice A0 l0.length c0] w fun e w' => e = .returned (.bool r) ∧ Below w.heap.size w w' := by
  have hu43 := Tryd.underlying43
  obtain rfl : impl_FormOk.l0 l0 = r := Option.some.inj h
  clear h
  have HR := Aside0.mk hr0
  clear hr0
  have HB := Aside0.mk (Below.refl w.heap.size w)
  by_cases c2 : (l0.length : Int) > 30
  · have c2b : decide (30 < (l0.length : Int)) = true := decide_eq_true c2
    have c2c : decide (30 < l0.length) = true := decide_eq_true (by omega)
    have hF : impl_FormOk.l0 l0 = false := by unfold impl_FormOk.l0; rw [decide_eq_false (by omega)]; rfl
    rw [hF]
    go_enter Tryd.func20, Tryd.ntmps20
    go_wp2
    go_ret
    exact ⟨rfl, HB.out⟩
  · have c2b : decide (30 < (l0.length : Int)) = false := decide_eq_false c2
    have c2c : decide (30 < l0.length) = false := decide_eq_false (by omega)
    have h30 := Aside0.mk c2
    clear c2
    go_enter Tryd.func20, Tryd.ntmps20
    go_wp2
    go_loopg [3, 4, 10] l0.length (fun gg _ _ s10 wr => ∃ kk : Nat, kk ≤ l0.length ∧ l0.length - kk ≤ gg ∧ s10 = .int .i64 kk ∧ Aside0 (Below w.heap.size w wr) ∧ Aside0 (∀ j, j < kk → impl_FormOk.l1 l0 j = true))
    case atStart => exact ⟨0, Nat.zero_le _, by omega, rfl, ⟨HB.out⟩, ⟨fun j hj => absurd hj (Nat.not_lt_zero _)⟩⟩
    case round =>
      clear HB
      obtain ⟨kk, hkk, hg, rfl, HB, AA⟩ := hrel
      by_cases hlt : kk < l0.length
      · have hltz : (kk : Int) < (l0.length : Int) := by omega
        have hnn : (0 : Int) ≤ (kk : Int) := Int.natCast_nonneg kk
        obtain ⟨ad, e, hx0, hx1, hx2, hx3⟩ := at_T43 HR.out kk hnn hltz
        cases e
        rw [Int.toNat_natCast] at hx0 hx1 hx2 hx3
        replace hx0 := (HB.out.cell (World.block_lt_of_cell? w _ hx0)).trans hx0
        replace hx1 := (HB.out.cell (World.block_lt_of_cell? w _ hx1)).trans hx1
        replace hx2 := (HB.out.cell (World.block_lt_of_cell? w _ hx2)).trans hx2
        replace hx3 := (HB.out.cell (World.block_lt_of_cell? w _ hx3)).trans hx3
        obtain ⟨y, hy⟩ : ∃ y, y = rd_T43 l0 kk := ⟨_, rfl⟩
        rw [← hy] at hx0 hx1 hx2 hx3
        have Y := Aside0.mk hy
        clear hy
        obtain ⟨b1, hb1⟩ : ∃ b, b = decide (1 ≤ y.f0 ∧ y.f0 ≤ 9999) := ⟨_, rfl⟩
        obtain ⟨b2, hb2⟩ : ∃ b, b = decide (1 ≤ y.f1 ∧ y.f1 ≤ 9) := ⟨_, rfl⟩
        obtain ⟨b3, hb3⟩ : ∃ b, b = decide (1 ≤ y.f2 ∧ y.f2 ≤ 200) := ⟨_, rfl⟩
        have h1 := Aside0.mk (hd_btw y.f0 1 9999)
        have h2 := Aside0.mk (hd_btw y.f1 1 9)
        have h3 := Aside0.mk (hd_btw y.f2 1 200)
        rw [← hb1] at h1
        rw [← hb2] at h2
        rw [← hb3] at h3
        have K1 := Aside0.mk hb1
        have K2 := Aside0.mk hb2
        have K3 := Aside0.mk hb3
        clear hb1 hb2 hb3
        go_upto_region 6 with (first | ((with_reducible refine gate_dst (N := 4) rfl ?_); refine box_event ?hg (N := 4) ?hd (cs := #[.int .i64 0, .int .i64 0, .int .i64 0, .bool false]) (t := 43) ?hr ?_; (case hd => rfl); (case hg => rfl); (case hr => first | (go_simp; done) | (go_simp; rfl)); intro gb hg w6 hbox hb; have n0_ := Aside0.mk (below_step (by repeat (first | (with_reducible first | exact HB.out | apply below_alloc | apply pw_below_drewN | apply below_drew1) | exact HB.out)) hb); have n1_ := Aside0.mk (hbox); have n2_ := Aside0.mk ((by rw [hg]; exact (below_size (by repeat (first | (with_reducible first | exact HB.out | apply below_alloc | apply pw_below_drewN | apply below_drew1) | exact HB.out))) : w.heap.size ≤ gb)); clear HB; have HB := n0_; have BK := n1_; have GE := n2_; clear n0_ n1_ n2_; clear hb hbox hg; have hcz7_0 : w6.cell? ⟨gb, 0, none⟩ = some (.int .i64 0) := (blk_cell BK.out 0).trans rfl; have hcz7_1 : w6.cell? ⟨gb, 1, none⟩ = some (.int .i64 0) := (blk_cell BK.out 1).trans rfl; have hcz7_2 : w6.cell? ⟨gb, 2, none⟩ = some (.int .i64 0) := (blk_cell BK.out 2).trans rfl; have hcz7_3 : w6.cell? ⟨gb, 3, none⟩ = some (.bool false) := (blk_cell BK.out 3).trans rfl; have hfz7_0 := blk_frozen BK.out 0; have hfz7_1 := blk_frozen BK.out 1; have hfz7_2 := blk_frozen BK.out 2; have hfz7_3 := blk_frozen BK.out 3))
        repeat (go_quiet (first | ((with_reducible refine gate_dst (N := 4) rfl ?_); refine box_event ?hg (N := 4) ?hd (cs := #[.int .i64 0, .int .i64 0, .int .i64 0, .bool false]) (t := 43) ?hr ?_; (case hd => rfl); (case hg => rfl); (case hr => first | (go_simp; done) | (go_simp; rfl)); intro gb hg w6 hbox hb; have n0_ := Aside0.mk (below_step (by repeat (first | (with_reducible first | exact HB.out | apply below_alloc | apply pw_below_drewN | apply below_drew1) | exact HB.out)) hb); have n1_ := Aside0.mk (hbox); have n2_ := Aside0.mk ((by rw [hg]; exact (below_size (by repeat (first | (with_reducible first | exact HB.out | apply below_alloc | apply pw_below_drewN | apply below_drew1) | exact HB.out))) : w.heap.size ≤ gb)); clear HB; have HB := n0_; have BK := n1_; have GE := n2_; clear n0_ n1_ n2_; clear hb hbox hg; have hcz7_0 : w6.cell? ⟨gb, 0, none⟩ = some (.int .i64 0) := (blk_cell BK.out 0).trans rfl; have hcz7_1 : w6.cell? ⟨gb, 1, none⟩ = some (.int .i64 0) := (blk_cell BK.out 1).trans rfl; have hcz7_2 : w6.cell? ⟨gb, 2, none⟩ = some (.int .i64 0) := (blk_cell BK.out 2).trans rfl; have hcz7_3 : w6.cell? ⟨gb, 3, none⟩ = some (.bool false) := (blk_cell BK.out 3).trans rfl; have hfz7_0 := blk_frozen BK.out 0; have hfz7_1 := blk_frozen BK.out 1; have hfz7_2 := blk_frozen BK.out 2; have hfz7_3 := blk_frozen BK.out 3)); go_upto_region 6 with (first | ((with_reducible refine gate_dst (N := 4) rfl ?_); refine box_event ?hg (N := 4) ?hd (cs := #[.int .i64 0, .int .i64 0, .int .i64 0, .bool false]) (t := 43) ?hr ?_; (case hd => rfl); (case hg => rfl); (case hr => first | (go_simp; done) | (go_simp; rfl)); intro gb hg w6 hbox hb; have n0_ := Aside0.mk (below_step (by repeat (first | (with_reducible first | exact HB.out | apply below_alloc | apply pw_below_drewN | apply below_drew1) | exact HB.out)) hb); have n1_ := Aside0.mk (hbox); have n2_ := Aside0.mk ((by rw [hg]; exact (below_size (by repeat (first | (with_reducible first | exact HB.out | apply below_alloc | apply pw_below_drewN | apply below_drew1) | exact HB.out))) : w.heap.size ≤ gb)); clear HB; have HB := n0_; have BK := n1_; have GE := n2_; clear n0_ n1_ n2_; clear hb hbox hg; have hcz7_0 : w6.cell? ⟨gb, 0, none⟩ = some (.int .i64 0) := (blk_cell BK.out 0).trans rfl; have hcz7_1 : w6.cell? ⟨gb, 1, none⟩ = some (.int .i64 0) := (blk_cell BK.out 1).trans rfl; have hcz7_2 : w6.cell? ⟨gb, 2, none⟩ = some (.int .i64 0) := (blk_cell BK.out 2).trans rfl; have hcz7_3 : w6.cell? ⟨gb, 3, none⟩ = some (.bool false) := (blk_cell BK.out 3).trans rfl; have hfz7_0 := blk_frozen BK.out 0; have hfz7_1 := blk_frozen BK.out 1; have hfz7_2 := blk_frozen BK.out 2; have hfz7_3 := blk_frozen BK.out 3)))
        (try simp only [Act.put, List.setIfInBounds_toArray, List.set_cons_zero, List.set_cons_succ])
        go_cut [30] (fun v30 wc => v30 = .bool (!(b1 && b2 && b3)) ∧ Aside0 (wc.heap[gb]? = some (.cells #[.int .i64 y.f0, .int .i64 y.f1, .int .i64 y.f2, .bool y.f3] 43 (0, 0))) ∧ Aside0 (Below w.heap.size w wc))
        case first =>
          have hcz13_0 : w6.cell? ⟨gb, 0, none⟩ = some (.int .i64 0) := (blk_cell BK.out 0).trans rfl
          have hcz13_1 : w6.cell? ⟨gb, 1, none⟩ = some (.int .i64 0) := (blk_cell BK.out 1).trans rfl
          have hcz13_2 : w6.cell? ⟨gb, 2, none⟩ = some (.int .i64 0) := (blk_cell BK.out 2).trans rfl
          have hcz13_3 : w6.cell? ⟨gb, 3, none⟩ = some (.bool false) := (blk_cell BK.out 3).trans rfl
          cases b1 with
          | false =>
            go_wp2_with (first | (go_at_call 39; (with_reducible refine (impl_between.calls y.f0 1 9999 false _ h1.out).mono ?_); rintro e w' ⟨rfl, ⟨nd, rfl⟩⟩; (try first | exact ⟨rfl, _, World.drewN_drewN _ _ _⟩ | exact ⟨rfl, _, Eq.trans (World.drewN_drewN _ _ _) (congrArg (World.drewN _) (Nat.add_assoc _ _ _))⟩)))
            go_meet
            case rel => exact ⟨by first | rfl | simp, ⟨(by (with_reducible repeat (first | refine blk_drewN ?_ _ | refine blk_drew ?_ | refine blk_alloc ?_ _)); refine blk_put (cs := #[.int .i64 y.f0, .int .i64 y.f1, .int .i64 y.f2, .bool false]) ?_ 3 _ rfl; (with_reducible repeat (first | refine blk_drewN ?_ _ | refine blk_drew ?_ | refine blk_alloc ?_ _)); refine blk_put (cs := #[.int .i64 y.f0, .int .i64 y.f1, .int .i64 0, .bool false]) ?_ 2 _ rfl; (with_reducible repeat (first | refine blk_drewN ?_ _ | refine blk_drew ?_ | refine blk_alloc ?_ _)); refine blk_put (cs := #[.int .i64 y.f0, .int .i64 0, .int .i64 0, .bool false]) ?_ 1 _ rfl; (with_reducible repeat (first | refine blk_drewN ?_ _ | refine blk_drew ?_ | refine blk_alloc ?_ _)); refine blk_put (cs := #[.int .i64 0, .int .i64 0, .int .i64 0, .bool false]) ?_ 0 _ rfl; (with_reducible repeat (first | refine blk_drewN ?_ _ | refine blk_drew ?_ | refine blk_alloc ?_ _)); exact BK.out)⟩, ⟨(by repeat (first | (with_reducible first | exact HB.out | apply below_alloc | apply pw_below_drewN | apply below_drew1 | refine below_set ?_ GE.out) | exact HB.out))⟩⟩
          | true =>
            cases b2 with
            | false =>
              go_wp2_with (first | (go_at_call 39; (with_reducible refine (impl_between.calls y.f0 1 9999 true _ h1.out).mono ?_); rintro e w' ⟨rfl, ⟨nd, rfl⟩⟩; (try first | exact ⟨rfl, _, World.drewN_drewN _ _ _⟩ | exact ⟨rfl, _, Eq.trans (World.drewN_drewN _ _ _) (congrArg (World.drewN _) (Nat.add_assoc _ _ _))⟩)) | (go_at_call 39; (with_reducible refine (impl_between.calls y.f1 1 9 false _ h2.out).mono ?_); rintro e w' ⟨rfl, ⟨nd, rfl⟩⟩; (try first | exact ⟨rfl, _, World.drewN_drewN _ _ _⟩ | exact ⟨rfl, _, Eq.trans (World.drewN_drewN _ _ _) (congrArg (World.drewN _) (Nat.add_assoc _ _ _))⟩)))
              go_meet
              case rel => exact ⟨by first | rfl | simp, ⟨(by (with_reducible repeat (first | refine blk_drewN ?_ _ | refine blk_drew ?_ | refine blk_alloc ?_ _)); refine blk_put (cs := #[.int .i64 y.f0, .int .i64 y.f1, .int .i64 y.f2, .bool false]) ?_ 3 _ rfl; (with_reducible repeat (first | refine blk_drewN ?_ _ | refine blk_drew ?_ | refine blk_alloc ?_ _)); refine blk_put (cs := #[.int .i64 y.f0, .int .i64 y.f1, .int .i64 0, .bool false]) ?_ 2 _ rfl; (with_reducible repeat (first | refine blk_drewN ?_ _ | refine blk_drew ?_ | refine blk_alloc ?_ _)); refine blk_put (cs := #[.int .i64 y.f0, .int .i64 0, .int .i64 0, .bool false]) ?_ 1 _ rfl; (with_reducible repeat (first | refine blk_drewN ?_ _ | refine blk_drew ?_ | refine blk_alloc ?_ _)); refine blk_put (cs := #[.int .i64 0, .int .i64 0, .int .i64 0, .bool false]) ?_ 0 _ rfl; (with_reducible repeat (first | refine blk_drewN ?_ _ | refine blk_drew ?_ | refine blk_alloc ?_ _)); exact BK.out)⟩, ⟨(by repeat (first | (with_reducible first | exact HB.out | apply below_alloc | apply pw_below_drewN | apply below_drew1 | refine below_set ?_ GE.out) | exact HB.out))⟩⟩
            | true =>
              cases b3 with
              | false =>
                go_wp2_with (first | (go_at_call 39; (with_reducible refine (impl_between.calls y.f0 1 9999 true _ h1.out).mono ?_); rintro e w' ⟨rfl, ⟨nd, rfl⟩⟩; (try first | exact ⟨rfl, _, World.drewN_drewN _ _ _⟩ | exact ⟨rfl, _, Eq.trans (World.drewN_drewN _ _ _) (congrArg (World.drewN _) (Nat.add_assoc _ _ _))⟩)) | (go_at_call 39; (with_reducible refine (impl_between.calls y.f1 1 9 true _ h2.out).mono ?_); rintro e w' ⟨rfl, ⟨nd, rfl⟩⟩; (try first | exact ⟨rfl, _, World.drewN_drewN _ _ _⟩ | exact ⟨rfl, _, Eq.trans (World.drewN_drewN _ _ _) (congrArg (World.drewN _) (Nat.add_assoc _ _ _))⟩)) | (go_at_call 39; (with_reducible refine (impl_between.calls y.f2 1 200 false _ h3.out).mono ?_); rintro e w' ⟨rfl, ⟨nd, rfl⟩⟩; (try first | exact ⟨rfl, _, World.drewN_drewN _ _ _⟩ | exact ⟨rfl, _, Eq.trans (World.drewN_drewN _ _ _) (congrArg (World.drewN _) (Nat.add_assoc _ _ _))⟩)))
                go_meet
                case rel => exact ⟨by first | rfl | simp, ⟨(by (with_reducible repeat (first | refine blk_drewN ?_ _ | refine blk_drew ?_ | refine blk_alloc ?_ _)); refine blk_put (cs := #[.int .i64 y.f0, .int .i64 y.f1, .int .i64 y.f2, .bool false]) ?_ 3 _ rfl; (with_reducible repeat (first | refine blk_drewN ?_ _ | refine blk_drew ?_ | refine blk_alloc ?_ _)); refine blk_put (cs := #[.int .i64 y.f0, .int .i64 y.f1, .int .i64 0, .bool false]) ?_ 2 _ rfl; (with_reducible repeat (first | refine blk_drewN ?_ _ | refine blk_drew ?_ | refine blk_alloc ?_ _)); refine blk_put (cs := #[.int .i64 y.f0, .int .i64 0, .int .i64 0, .bool false]) ?_ 1 _ rfl; (with_reducible repeat (first | refine blk_drewN ?_ _ | refine blk_drew ?_ | refine blk_alloc ?_ _)); refine blk_put (cs := #[.int .i64 0, .int .i64 0, .int .i64 0, .bool false]) ?_ 0 _ rfl; (with_reducible repeat (first | refine blk_drewN ?_ _ | refine blk_drew ?_ | refine blk_alloc ?_ _)); exact BK.out)⟩, ⟨(by repeat (first | (with_reducible first | exact HB.out | apply below_alloc | apply pw_below_drewN | apply below_drew1 | refine below_set ?_ GE.out) | exact HB.out))⟩⟩
              | true =>
                go_wp2_with (first | (go_at_call 39; (with_reducible refine (impl_between.calls y.f0 1 9999 true _ h1.out).mono ?_); rintro e w' ⟨rfl, ⟨nd, rfl⟩⟩; (try first | exact ⟨rfl, _, World.drewN_drewN _ _ _⟩ | exact ⟨rfl, _, Eq.trans (World.drewN_drewN _ _ _) (congrArg (World.drewN _) (Nat.add_assoc _ _ _))⟩)) | (go_at_call 39; (with_reducible refine (impl_between.calls y.f1 1 9 true _ h2.out).mono ?_); rintro e w' ⟨rfl, ⟨nd, rfl⟩⟩; (try first | exact ⟨rfl, _, World.drewN_drewN _ _ _⟩ | exact ⟨rfl, _, Eq.trans (World.drewN_drewN _ _ _) (congrArg (World.drewN _) (Nat.add_assoc _ _ _))⟩)) | (go_at_call 39; (with_reducible refine (impl_between.calls y.f2 1 200 true _ h3.out).mono ?_); rintro e w' ⟨rfl, ⟨nd, rfl⟩⟩; (try first | exact ⟨rfl, _, World.drewN_drewN _ _ _⟩ | exact ⟨rfl, _, Eq.trans (World.drewN_drewN _ _ _) (congrArg (World.drewN _) (Nat.add_assoc _ _ _))⟩)))
                go_meet
                case rel => exact ⟨by first | rfl | simp, ⟨(by (with_reducible repeat (first | refine blk_drewN ?_ _ | refine blk_drew ?_ | refine blk_alloc ?_ _)); refine blk_put (cs := #[.int .i64 y.f0, .int .i64 y.f1, .int .i64 y.f2, .bool false]) ?_ 3 _ rfl; (with_reducible repeat (first | refine blk_drewN ?_ _ | refine blk_drew ?_ | refine blk_alloc ?_ _)); refine blk_put (cs := #[.int .i64 y.f0, .int .i64 y.f1, .int .i64 0, .bool false]) ?_ 2 _ rfl; (with_reducible repeat (first | refine blk_drewN ?_ _ | refine blk_drew ?_ | refine blk_alloc ?_ _)); refine blk_put (cs := #[.int .i64 y.f0, .int .i64 0, .int .i64 0, .bool false]) ?_ 1 _ rfl; (with_reducible repeat (first | refine blk_drewN ?_ _ | refine blk_drew ?_ | refine blk_alloc ?_ _)); refine blk_put (cs := #[.int .i64 0, .int .i64 0, .int .i64 0, .bool false]) ?_ 0 _ rfl; (with_reducible repeat (first | refine blk_drewN ?_ _ | refine blk_drew ?_ | refine blk_alloc ?_ _)); exact BK.out)⟩, ⟨(by repeat (first | (with_reducible first | exact HB.out | apply below_alloc | apply pw_below_drewN | apply below_drew1 | refine below_set ?_ GE.out) | exact HB.out))⟩⟩
        case rest =>
          obtain ⟨rfl, BK, HB⟩ := hcut
          have hok : impl_FormOk.l1 l0 kk = (b1 && b2 && b3 && !((l0.take kk).any fun x => x.f0 == y.f0)) := by unfold impl_FormOk.l1; rw [← Y.out, ← K1.out, ← K2.out, ← K3.out]
          cases hb : (b1 && b2 && b3) with
          | false =>
            have hF := Aside0.mk (show impl_FormOk.l0 l0 = false from formB_false l0 kk hlt (by rw [hok, hb]; rfl))
            go_wp2
            go_ret
            exact ⟨(by rw [hF.out]; rfl), (by repeat (first | (with_reducible first | exact HB.out | apply below_alloc | apply pw_below_drewN | apply below_drew1 | refine below_set ?_ GE.out) | exact HB.out))⟩
          | true =>
            cases hd : ((l0.take kk).any fun x => x.f0 == y.f0) with
            | true =>
              have hF := Aside0.mk (show impl_FormOk.l0 l0 = false from formB_false l0 kk hlt (by rw [hok, hb, hd]; rfl))
              go_wp2_with (go_at_call 42; refine (containsFunc_U _ _ _ kk _ l0 _ (Kd.C_below HR.out (by repeat (first | (with_reducible first | exact HB.out | apply below_alloc | apply pw_below_drewN | apply below_drew1 | refine below_set ?_ GE.out) | exact HB.out))) (by omega) (by have := h30.out; omega) (pred43 y.f0 gb _ (hd_blk_lt BK.out) ((blk_cell BK.out 0).trans rfl))).mono ?_; rw [hd]; rintro e w' ⟨rfl, hb'⟩)
              go_ret
              exact ⟨(by rw [hF.out]; rfl), below_step HB.out hb'⟩
            | false =>
              go_wp2_with (go_at_call 42; refine (containsFunc_U _ _ _ kk _ l0 _ (Kd.C_below HR.out (by repeat (first | (with_reducible first | exact HB.out | apply below_alloc | apply pw_below_drewN | apply below_drew1 | refine below_set ?_ GE.out) | exact HB.out))) (by omega) (by have := h30.out; omega) (pred43 y.f0 gb _ (hd_blk_lt BK.out) ((blk_cell BK.out 0).trans rfl))).mono ?_; rw [hd]; rintro e w' ⟨rfl, hb'⟩)
              go_roundg (l0.length - (kk + 1))
              case measure => omega
              case rel =>
                have hk30 : kk < 31 := by have := h30.out; omega
                refine ⟨kk + 1, by omega, by omega, by rw [hd_w64k kk hk30], ⟨below_step HB.out hb'⟩, ⟨fun j hj => ?_⟩⟩
                by_cases e : j = kk
                · subst e
                  rw [hok, hb, hd]; rfl
                · exact AA.out j (by omega)
      · have hltz : ¬ (kk : Int) < (l0.length : Int) := by omega
        have hF := Aside0.mk (show impl_FormOk.l0 l0 = true from formB_true l0 (by have := h30.out; omega) (fun j hj => AA.out j (by omega)))
        go_wp2
        go_ret
        exact ⟨(by rw [hF.out]; rfl), HB.out⟩

end Go.Proofs.YtnojpcmaalbdhaaDoor.P

/- The program's chains: a contract by hand. -/
import Derived.Test.YtoalolbifakpiaaS12
import Derived.Test.YtoalolbifakpiaaPx6
namespace Go.Proofs.Ytoalolbifakpiaa.P
open Go.Proofs Go.Shelf Go.RowKit Go.Sort Go.Proofs.YtoalolbifakpiaaW.PrintWords Go.Proofs.YtoalolbifakpiaaW.PrintLast Go.Proofs.YtoalolbifakpiaaW.PrintMore
set_option linter.unusedVariables false
set_option linter.unusedSimpArgs false

theorem hd_follows (a b : S25) (turn : Int) (w : World) :
    Calls Try.prog 53 #[.agg #[.int .i64 a.f0, .int .i64 a.f1, .int .i64 a.f2, .int .i64 a.f3, .int .i64 a.f4], .agg #[.int .i64 b.f0, .int .i64 b.f1, .int .i64 b.f2, .int .i64 b.f3, .int .i64 b.f4], .int .i64 turn] w fun e w' => e = .returned (.bool (impl_chains.l3 turn a b)) ∧ ∃ q os', w' = grow (w.drewN q) os' := by
  have hu25 := Try.underlying25; have mixed : Try.prog.follows Departure.mixedOrders = true := by kernel_rfl
  obtain ⟨r, hr⟩ : ∃ r, r = impl_chains.l3 turn a b := ⟨_, rfl⟩
  rw [← hr]
  have HR := Aside0.mk hr
  clear hr
  by_cases c : a.f1 = b.f0
  · have c1 : (a.f1 == b.f0) = true := beq_iff_eq.2 c
    have hr : r = decide (wrap64 (a.f3 + turn) ≤ b.f2) := by have := HR.out; unfold impl_chains.l3 at this; rw [decide_eq_true c] at this; simpa using this
    clear c
    subst hr
    clear HR
    go_enter Try.func53, Try.ntmps53
    go_wp2
    go_ret
    exact ⟨rfl, 0, _, by rw [alloc_eq_grow, alloc_eq_grow, grow_grow]; rfl⟩
  · have c1 : (a.f1 == b.f0) = false := beq_eq_false_iff_ne.2 c
    have hr : r = false := by have := HR.out; unfold impl_chains.l3 at this; rw [decide_eq_false c] at this; simpa using this
    clear c
    subst hr
    clear HR
    go_enter Try.func53, Try.ntmps53
    go_wp2
    go_ret
    exact ⟨rfl, 0, _, by rw [alloc_eq_grow, alloc_eq_grow, grow_grow]; rfl⟩
theorem ch_q : ∀ q, q ∈ 3 :: (Kd.int .i64).E → q ≠ 39 := fun q hq => by
  have : q = 3 := by simpa [Kd.int, Kd.scalar] using hq
  omega
theorem ch_keep {W w1 : World} {base : Nat} {ob row : Option Nat} {vo : Value} {os : List Int} (hO : Kd.R (Kd.int .i64) 3 W base (fun k => some k = ob) vo os) (hv : ∀ g, row = some g → ∃ cells, W.heap[g]? = some (.cells cells 39 (0, 0))) (hg : W.grownBy w1 row) : Kd.R (Kd.int .i64) 3 w1 base (fun k => some k = ob) vo os := by
  cases row with
  | none => exact Kd.R_grown hO hg (fun k _ => by simp)
  | some g =>
    obtain ⟨c, hc⟩ := hv g rfl
    exact Kd.R_mono (Kd.R_grown (Kd.R_types hO hc ch_q) hg (fun k hk e => hk.2 (Option.some.inj e))) (fun _ hk => hk.1)
/-- Every place told is one of the tasks, and no unit is empty; no unit is longer than m. -/
def ch_in (n m : Nat) (us : List (List Int)) : Prop := us.length ≤ m ∧ ∀ u, u < us.length → (chl us u).length ≤ m ∧ ∀ x, x ∈ chl us u → 0 ≤ x ∧ x < n
theorem ch_in_push (n m : Nat) (us : List (List Int)) (t : Int) (h : ch_in n m us) (h0 : 0 ≤ t) (h1 : t < n) : ch_in n (m + 1) (us ++ [[t]]) := by
  refine ⟨by rw [List.length_append, List.length_singleton]; have := h.1; omega, fun u hu => ?_⟩
  rw [List.length_append, List.length_singleton] at hu
  rw [ch_chl_app _ _ _ hu]
  by_cases e : u = us.length
  · rw [if_pos e]
    exact ⟨by simp, fun x hx => by rw [List.mem_singleton.1 hx]; exact ⟨h0, h1⟩⟩
  · rw [if_neg e]
    have := h.2 u (by omega)
    exact ⟨by omega, this.2⟩
theorem ch_in_app (n m : Nat) (us : List (List Int)) (t : Int) (b : Nat) (hb : b < us.length) (h : ch_in n m us) (h0 : 0 ≤ t) (h1 : t < n) : ch_in n (m + 1) (us.set b (chl us b ++ [t])) := by
  refine ⟨by rw [List.length_set]; have := h.1; omega, fun u hu => ?_⟩
  rw [List.length_set] at hu
  rw [ch_chl_set _ _ _ _ hb]
  by_cases e : b = u
  · rw [if_pos e]
    have := h.2 b hb
    refine ⟨by rw [List.length_append, List.length_singleton]; omega, fun x hx => ?_⟩
    rcases List.mem_append.1 hx with h2 | h2
    · exact this.2 x h2
    · rw [List.mem_singleton.1 h2]; exact ⟨h0, h1⟩
  · rw [if_neg e]
    have := h.2 u hu
    exact ⟨by omega, this.2⟩
theorem hd_info39 : (Try.prog.info? 39).map (fun i => (i.zero, i.size, i.bytes)) = some (some (.slice none 0 0), 1, 24) := by kernel_rfl
theorem ch_drewN {W : World} {base : Nat} {ob : Option Nat} {v : Value} {ps : List (Nat × Nat × Nat)} {us : List (List Int)} (h : Ch W base ob v ps us) (n : Nat) : Ch (W.drewN n) base ob v ps us := ch_below h ⟨rfl, rfl, rfl, Nat.le_refl _, fun _ _ => rfl⟩
theorem ch_last (n m : Nat) (us : List (List Int)) (h : ch_in n m us) (u : Nat) (hu : u < us.length) (hp : 0 < (chl us u).length) : 0 ≤ impl_chains.l2 us u ∧ impl_chains.l2 us u < n := by
  refine (h.2 u hu).2 _ ?_
  unfold impl_chains.l2 rd
  show (chl us u).getD _ 0 ∈ _
  rw [Int.toNat_natCast, List.getD_eq_getElem?_getD]
  show ((chl us u)[(chl us u).length - 1]?).getD 0 ∈ _
  rw [List.getElem?_eq_getElem (show (chl us u).length - 1 < (chl us u).length by omega)]
  exact List.getElem_mem _
theorem ch_order (l : List S25) : (impl_byDep.l0 l).length = l.length ∧ ∀ x, x ∈ impl_byDep.l0 l → 0 ≤ x ∧ x < l.length := by
  unfold impl_byDep.l0
  refine ⟨by rw [List.length_map, List.length_mergeSort, List.length_range], fun x hx => ?_⟩
  obtain ⟨i, hi, rfl⟩ := List.mem_map.1 hx
  rw [List.mem_mergeSort, List.mem_range] at hi
  omega
theorem ch_rd (os : List Int) (i : Nat) (h : i < os.length) : rd os (i : Int) ∈ os ∧ os.drop i = rd os (i : Int) :: os.drop (i + 1) := by
  have e : rd os (i : Int) = os[i] := by unfold rd; rw [Int.toNat_natCast, List.getD_eq_getElem?_getD, List.getElem?_eq_getElem h]; rfl
  rw [e]
  exact ⟨List.getElem_mem _, List.drop_eq_getElem_cons h⟩

set_option maxHeartbeats 16000000 in
set_option maxRecDepth 100000 in
theorem hd_chains (k : Nat) (A0 : Option Addr) (c0 : Nat) (l0 : List (S25)) (a1 : Int) (r : List (List Int)) (w : World) (hr0 : Kd.C k25 w A0 l0.length l0) (hc0 : l0.length ≤ c0) (h : impl_chains.f k l0 a1 = some r) :
    Calls Try.prog 58 #[.slice A0 l0.length c0, .int .i64 a1] w fun e w' => ∃ v0_ : Value, e = .returned (v0_) ∧ Kd.S (Kd.slice 3 (Kd.int .i64)) 39 w' w.heap.size (fun _ => True) v0_ r ∧ Go.RowKit.Below w.heap.size w w' := by
  have hu39 := Try.underlying39; have hu31 := Try.underlying31; have hu25 := Try.underlying25; have hu60 := Try.underlying60; have mixed : Try.prog.follows Departure.mixedOrders = true := by kernel_rfl
  have h40 : l0.length ≤ 40 := by
    unfold impl_chains.f at h
    split at h
    · assumption
    · simp at h
  have hr : r = impl_chains.l0 l0 a1 (impl_byDep.l0 l0) [] := by
    unfold impl_chains.f at h
    rw [if_pos h40] at h
    exact (Option.some.inj h).symm
  have HR := Aside0.mk hr
  clear h hr
  have HR0 := Aside0.mk hr0
  have HC0 := Aside0.mk hc0
  clear hr0 hc0
  have HB := Aside0.mk (Go.RowKit.Below.refl w.heap.size w)
  go_enter Try.func58, Try.ntmps58
  go_wp2_with (first | ((with_reducible refine gate_dst (N := 12) rfl ?_); refine Kd.R_lit chk _ 39 ?hg (N := 12) ?hd (xs := []) (inner := []) (ok := fun _ => True) (okp := fun _ => True) ?hr ?hp (fun _ hk => hk) trivial (Go.RowKit.Below.refl _ _) (Nat.le_refl _) (by simp) ?_; (case hd => rfl); (case hg => rfl); (case hr => first | (go_simp; done) | (go_simp; rfl)); (case hp => exact (Reps.none _ _)); intro v1 w2 ho3 hb hg_ hnew_; clear hg_ hnew_) | (go_at_call 60; refine (hd_byDep 0 A0 c0 l0 (impl_byDep.l0 l0) w2 (Kd.C_below HR0.out hb) HC0.out (if_pos h40)).mono ?_; rintro e_ w3 ⟨vo, rfl, ho, hb2⟩; (obtain ⟨Ao, co, rfl⟩ := Kd.R_slice ho)))
  obtain ⟨A1, c1, rfl⟩ := Kd.R_slice ho3
  obtain ⟨hol, hoi⟩ := ch_order l0
  have h1 := Kd.R_below ho3 hb2
  have h2 := below_step hb hb2
  have h3 := Kd.R_lower ho hb.size
  obtain ⟨os, hos⟩ : ∃ q, q = impl_byDep.l0 l0 := ⟨_, rfl⟩
  rw [← hos] at hol hoi h3 HR ⊢
  obtain ⟨ob, hob⟩ : ∃ q, q = (Value.slice Ao os.length co).ownBlock := ⟨_, rfl⟩
  have HOB : Aside0 (∀ k, ob = some k → k < w3.heap.size) := ⟨fun k hk => own_lt (Kd.own_of_R h3) k (by rw [← hob]; exact hk)⟩
  have HO : Aside0 (Kd.R (Kd.int .i64) 3 w3 w.heap.size (fun k => some k = ob) (.slice Ao os.length co) os) := ⟨⟨fun k hk => by rw [hob, hk], by obtain ⟨_, i, q1, q2⟩ := h3; exact ⟨i, q1, q2⟩⟩⟩
  have HCh : Aside0 (Ch w3 w.heap.size ob (.slice A1 0 c1) [] []) := ⟨ch_nil h1⟩
  clear HB
  have HB := Aside0.mk h2
  have HOI := Aside0.mk hoi
  have HH : Aside0 (impl_chains.l0 l0 a1 (os.drop 0) [] = r) := ⟨HR.out.symm⟩
  have hI : Aside0 (ch_in l0.length 0 []) := ⟨by simp, fun u hu => absurd hu (by simp)⟩
  clear h1 h2 h3 ho ho3 hb hb2 hob hoi HR hos
  go_loopg [5, 16] (os.length + 1) (fun kq v5 v16 w' => ∃ (i : Nat) (Au : Option Addr) (cu : Nat) (ps : List (Nat × Nat × Nat)) (us : List (List Int)), v5 = .slice Au us.length cu ∧ v16 = .int .i64 (i : Int) ∧ i ≤ os.length ∧ os.length + 1 ≤ i + kq ∧ Aside0 (Ch w' w.heap.size ob (.slice Au us.length cu) ps us) ∧ Aside0 (ch_in l0.length i us) ∧ Aside0 (Kd.R (Kd.int .i64) 3 w' w.heap.size (fun k => some k = ob) (.slice Ao os.length co) os) ∧ Aside0 (∀ k, ob = some k → k < w'.heap.size) ∧ Aside0 (Go.RowKit.Below w.heap.size w w') ∧ Aside0 (impl_chains.l0 l0 a1 (os.drop i) us = r))
  case atStart => exact ⟨0, A1, c1, [], [], rfl, rfl, by omega, by omega, HCh, hI, HO, HOB, HB, HH⟩
  case round =>
    clear HCh hI HO HOB HB HH
    obtain ⟨i, Au, cu, ps, us, rfl, rfl, hi, hg, HCh, hI, HO, HOB, HB, HH⟩ := hrel
    obtain ⟨gko, hgko⟩ : ∃ q, q = gk := ⟨_, rfl⟩
    by_cases c : i < os.length
    · have cz : (i : Int) < (os.length : Int) := by omega
      obtain ⟨t, ht⟩ : ∃ t, t = rd os (i : Int) := ⟨_, rfl⟩
      obtain ⟨hm, hd⟩ := ch_rd os i c
      rw [← ht] at hm hd
      obtain ⟨ht0, ht1⟩ := HOI.out t hm
      have p5 : (0 : Int) ≤ (i : Int) := by omega
      obtain ⟨ad5, e5, hx5⟩ := Kd.at_int (Kd.R_reads' HO.out).2.2 (i : Int) p5 cz
      cases e5
      rw [Int.toNat_natCast, ← ht] at hx5
      have HD := Aside0.mk hd
      have HT := Aside0.mk ht
      have HOL := Aside0.mk hol
      have hi40 : i < 40 := by omega
      have hus : us.length ≤ i := hI.out.1
      clear hd hm ht hol
      go_wp2
      have HHb : Aside0 (impl_chains.l1 l0 a1 t us (us.length - 0) 0 (-1) = impl_chains.l1 l0 a1 t us us.length 0 (-1)) := ⟨rfl⟩
      go_loopg [8, 22] (us.length + 1) (fun kq v8 v22 w' => ∃ (u : Nat) (best : Int), v8 = .int .i64 best ∧ v22 = .int .i64 (u : Int) ∧ u ≤ us.length ∧ us.length + 1 ≤ u + kq ∧ -1 ≤ best ∧ best < us.length ∧ Aside0 (Ch w' w.heap.size ob (.slice Au us.length cu) ps us) ∧ Aside0 (Kd.R (Kd.int .i64) 3 w' w.heap.size (fun k => some k = ob) (.slice (some ad5) os.length co) os) ∧ Aside0 (∀ k, ob = some k → k < w'.heap.size) ∧ Aside0 (Go.RowKit.Below w.heap.size w w') ∧ Aside0 (impl_chains.l1 l0 a1 t us (us.length - u) u best = impl_chains.l1 l0 a1 t us us.length 0 (-1)))
      case atStart => exact ⟨0, -1, rfl, rfl, by omega, by omega, by omega, by omega, HCh, HO, HOB, HB, HHb⟩
      case round =>
        clear HCh HO HOB HB HHb hx5
        obtain ⟨u, best, rfl, rfl, hu, hg2, hb1, hb2, HCh, HO, HOB, HB, HHb⟩ := hrel
        by_cases cu1 : u < us.length
        · have cz2 : (u : Int) < (us.length : Int) := by omega
          obtain ⟨g, cap, gu, cgu, e1, q1, q2, q3, q4, q5, q6, q7⟩ := ch_at HCh.out u cu1
          cases e1
          obtain ⟨la, hla⟩ : ∃ q, q = impl_chains.l2 us u := ⟨_, rfl⟩
          obtain ⟨hla0, hla1⟩ := ch_last _ _ us hI.out u cu1 q7
          rw [← hla] at hla0 hla1
          have hlb := (hI.out.2 u cu1).1
          obtain ⟨ln, hln⟩ : ∃ q, q = (chl us u).length := ⟨_, rfl⟩
          have hq6 : rd (chl us u) ((chl us u).length - 1 : Nat) = la := hla.symm
          rw [hq6] at q6
          rw [← hln] at q4 q6 q7 hlb
          have HLA := Aside0.mk hla
          clear q2 q3 hq6 hla hln
          have p6 : (0 : Int) ≤ (ln : Int) - 1 := by omega
          have p7 : ((ln : Int) - 1) < (ln : Int) := by omega
          have e7 : ((ln : Int) - 1) = ((ln - 1 : Nat) : Int) := by omega
          obtain ⟨ad, ea, hx0, hx1, hx2, hx3, hx4⟩ := at_T25 HR0.out la hla0 hla1
          cases ea
          replace hx0 := (HB.out.cell (World.block_lt_of_cell? w _ hx0)).trans hx0
          replace hx1 := (HB.out.cell (World.block_lt_of_cell? w _ hx1)).trans hx1
          replace hx2 := (HB.out.cell (World.block_lt_of_cell? w _ hx2)).trans hx2
          replace hx3 := (HB.out.cell (World.block_lt_of_cell? w _ hx3)).trans hx3
          replace hx4 := (HB.out.cell (World.block_lt_of_cell? w _ hx4)).trans hx4
          go_wp2
          have hnb := blk_new wr (Obj.cells #[Value.int IntKind.i64 (rd_T25 l0 la).f0, Value.int IntKind.i64 (rd_T25 l0 la).f1, Value.int IntKind.i64 (rd_T25 l0 la).f2, Value.int IntKind.i64 (rd_T25 l0 la).f3, Value.int IntKind.i64 (rd_T25 l0 la).f4] 25)
          have hbw := below_alloc (Go.RowKit.Below.refl wr.heap.size wr) (Obj.cells #[Value.int IntKind.i64 (rd_T25 l0 la).f0, Value.int IntKind.i64 (rd_T25 l0 la).f1, Value.int IntKind.i64 (rd_T25 l0 la).f2, Value.int IntKind.i64 (rd_T25 l0 la).f3, Value.int IntKind.i64 (rd_T25 l0 la).f4] 25)
          generalize hW2 : wr.alloc (Obj.cells #[Value.int IntKind.i64 (rd_T25 l0 la).f0, Value.int IntKind.i64 (rd_T25 l0 la).f1, Value.int IntKind.i64 (rd_T25 l0 la).f2, Value.int IntKind.i64 (rd_T25 l0 la).f3, Value.int IntKind.i64 (rd_T25 l0 la).f4] 25) = W2 at hnb hbw ⊢
          clear hW2 hx0 hx1 hx2 hx3 hx4 q4 q5 q6
          have n0 : W2.cell? ⟨wr.heap.size, 0, none⟩ = some (.int .i64 (rd_T25 l0 la).f0) := by rw [blk_cell hnb]; rfl
          have n1 : W2.cell? ⟨wr.heap.size, 1, none⟩ = some (.int .i64 (rd_T25 l0 la).f1) := by rw [blk_cell hnb]; rfl
          have n2 : W2.cell? ⟨wr.heap.size, 2, none⟩ = some (.int .i64 (rd_T25 l0 la).f2) := by rw [blk_cell hnb]; rfl
          have n3 : W2.cell? ⟨wr.heap.size, 3, none⟩ = some (.int .i64 (rd_T25 l0 la).f3) := by rw [blk_cell hnb]; rfl
          have n4 : W2.cell? ⟨wr.heap.size, 4, none⟩ = some (.int .i64 (rd_T25 l0 la).f4) := by rw [blk_cell hnb]; rfl
          have HNB := Aside0.mk hnb
          have m1 := ch_below HCh.out hbw
          have m2 := Kd.R_below HO.out hbw
          have m3 : ∀ k, ob = some k → k < W2.heap.size := fun k hk => Nat.lt_of_lt_of_le (HOB.out k hk) hbw.size
          have m4 := below_step HB.out hbw
          clear HCh HO HOB HB
          have HCh := Aside0.mk m1; have HO := Aside0.mk m2; have HOB := Aside0.mk m3; have HB := Aside0.mk m4
          clear m1 m2 m3 m4 hnb hbw
          obtain ⟨ad', ea', hy0, hy1, hy2, hy3, hy4⟩ := at_T25 HR0.out t ht0 ht1
          cases ea'
          replace hy0 := (HB.out.cell (World.block_lt_of_cell? w _ hy0)).trans hy0
          replace hy1 := (HB.out.cell (World.block_lt_of_cell? w _ hy1)).trans hy1
          replace hy2 := (HB.out.cell (World.block_lt_of_cell? w _ hy2)).trans hy2
          replace hy3 := (HB.out.cell (World.block_lt_of_cell? w _ hy3)).trans hy3
          replace hy4 := (HB.out.cell (World.block_lt_of_cell? w _ hy4)).trans hy4
          obtain ⟨fl, hfl⟩ : ∃ q, q = impl_chains.l3 a1 (rd_T25 l0 la) (rd_T25 l0 t) := ⟨_, rfl⟩
          have hcall := fun (n : Nat) (os : Array Obj) => hd_follows (rd_T25 l0 la) (rd_T25 l0 t) a1 (grow (W2.drewN n) os)
          rw [← hfl] at hcall
          have kn0 := fun n os => sy_keep n0 n os
          have kn1 := fun n os => sy_keep n1 n os
          have kn2 := fun n os => sy_keep n2 n os
          have kn3 := fun n os => sy_keep n3 n os
          have kn4 := fun n os => sy_keep n4 n os
          have ky0 := fun n os => sy_keep hy0 n os
          have ky1 := fun n os => sy_keep hy1 n os
          have ky2 := fun n os => sy_keep hy2 n os
          have ky3 := fun n os => sy_keep hy3 n os
          have ky4 := fun n os => sy_keep hy4 n os
          have HFL := Aside0.mk hfl
          clear hfl n0 n1 n2 n3 n4 hy0 hy1 hy2 hy3 hy4
          have e8 : us.length - u = (us.length - (u + 1)) + 1 := by omega
          have e9 : Aside0 (impl_chains.l1 l0 a1 t us (us.length - u) u best = (if fl = true then (if best < 0 then impl_chains.l1 l0 a1 t us (us.length - (u + 1)) (u + 1) u else if (rd_T25 l0 la).f3 < (rd_T25 l0 (impl_chains.l2 us best.toNat)).f3 then impl_chains.l1 l0 a1 t us (us.length - (u + 1)) (u + 1) u else impl_chains.l1 l0 a1 t us (us.length - (u + 1)) (u + 1) best) else impl_chains.l1 l0 a1 t us (us.length - (u + 1)) (u + 1) best)) := ⟨by rw [e8]; rw [impl_chains.l1, HFL.out, HLA.out]⟩
          clear e8
          go_quiet_grown (first | (go_at_call 53; refine Calls.grown_of (hcall _ _)))
          clear hcall kn0 kn1 kn2 kn3 kn4 ky0 ky1 ky2 ky3 ky4
          have hb3 : Go.RowKit.Below W2.heap.size W2 (grow (W2.drewN nq) osq) := ⟨rfl, rfl, rfl, by rw [size_grow]; show W2.heap.size ≤ W2.heap.size + _; omega, fun k hk => heap_grow_old _ _ hk⟩
          generalize hW3 : grow (W2.drewN nq) osq = w3 at hb3 ⊢
          clear hW3
          have m1 := ch_below HCh.out hb3
          have m2 := Kd.R_below HO.out hb3
          have m3 : ∀ k, ob = some k → k < w3.heap.size := fun k hk => Nat.lt_of_lt_of_le (HOB.out k hk) hb3.size
          have m4 := below_step HB.out hb3
          have m5 := blk_below HNB.out hb3
          clear HCh HO HOB HB HNB hb3
          have HCh := Aside0.mk m1; have HO := Aside0.mk m2; have HOB := Aside0.mk m3; have HB := Aside0.mk m4
          have n3 : w3.cell? ⟨wr.heap.size, 3, none⟩ = some (.int .i64 (rd_T25 l0 la).f3) := by rw [blk_cell m5]; rfl
          clear m1 m2 m3 m4 m5
          cases fl with
          | false =>
            go_wp2
            go_roundg (gk - 1)
            case measure => omega
            case rel => exact ⟨u + 1, best, rfl, by go_num, by omega, by omega, by omega, by omega, HCh, HO, HOB, HB, ⟨by have := HHb.out; rw [e9.out] at this; rw [← this]; rfl⟩⟩
          | true =>
            by_cases b0 : best < 0
            · have b0d : decide (best < 0) = true := decide_eq_true b0
              have e10 : Aside0 (impl_chains.l1 l0 a1 t us (us.length - u) u best = impl_chains.l1 l0 a1 t us (us.length - (u + 1)) (u + 1) u) := ⟨by rw [e9.out, if_pos rfl, if_pos b0]⟩
              clear b0
              go_wp2
              go_quiet (fail)
              go_wp2
              go_roundg (gk - 1)
              case measure => omega
              case rel => exact ⟨u + 1, (u : Int), rfl, by go_num, by omega, by omega, by omega, by omega, ⟨ch_drewN HCh.out _⟩, ⟨by apply Kd.R_drewN; exact HO.out⟩, HOB, ⟨by apply pw_below_drewN; exact HB.out⟩, ⟨by rw [← e10.out]; exact HHb.out⟩⟩
            · have b0d : decide (best < 0) = false := decide_eq_false b0
              obtain ⟨bn, hbn⟩ : ∃ bn : Nat, best = (bn : Int) := ⟨best.toNat, by omega⟩
              subst hbn
              have hbu : bn < us.length := by omega
              obtain ⟨g', cap', gb, cgb, e1', r1, r2, r3, r4, r5, r6, r7⟩ := ch_at HCh.out bn hbu
              cases e1'
              obtain ⟨lb, hlb2⟩ : ∃ q, q = impl_chains.l2 us bn := ⟨_, rfl⟩
              obtain ⟨hlb0, hlb1⟩ := ch_last _ _ us hI.out bn hbu r7
              rw [← hlb2] at hlb0 hlb1
              have hlc := (hI.out.2 bn hbu).1
              obtain ⟨lm, hlm⟩ : ∃ q, q = (chl us bn).length := ⟨_, rfl⟩
              have hr6 : rd (chl us bn) ((chl us bn).length - 1 : Nat) = lb := hlb2.symm
              rw [hr6] at r6
              rw [← hlm] at r4 r6 r7 hlc
              have HLB := Aside0.mk hlb2
              clear r2 r3 hr6 hlb2 hlm
              have p8 : (0 : Int) ≤ (lm : Int) - 1 := by omega
              have p9 : ((lm : Int) - 1) < (lm : Int) := by omega
              have e11 : ((lm : Int) - 1) = ((lm - 1 : Nat) : Int) := by omega
              obtain ⟨ad2, ea2, hz0, hz1, hz2, hz3, hz4⟩ := at_T25 HR0.out lb hlb0 hlb1
              cases ea2
              replace hz3 := (HB.out.cell (World.block_lt_of_cell? w _ hz3)).trans hz3
              clear hz0 hz1 hz2 hz4
              have e10 : Aside0 (impl_chains.l1 l0 a1 t us (us.length - u) u (bn : Int) = (if (rd_T25 l0 la).f3 < (rd_T25 l0 lb).f3 then impl_chains.l1 l0 a1 t us (us.length - (u + 1)) (u + 1) u else impl_chains.l1 l0 a1 t us (us.length - (u + 1)) (u + 1) (bn : Int))) := ⟨by rw [e9.out, if_pos rfl, if_neg b0, Int.toNat_natCast, HLB.out]⟩
              clear b0
              have pb0 : (0 : Int) ≤ (bn : Int) := by omega
              have pb1 : (bn : Int) < (us.length : Int) := by omega
              by_cases c3 : (rd_T25 l0 la).f3 < (rd_T25 l0 lb).f3
              · have c3d : decide ((rd_T25 l0 la).f3 < (rd_T25 l0 lb).f3) = true := decide_eq_true c3
                have e12 : Aside0 (impl_chains.l1 l0 a1 t us (us.length - (u + 1)) (u + 1) u = impl_chains.l1 l0 a1 t us us.length 0 (-1)) := ⟨by rw [← HHb.out, e10.out, if_pos c3]⟩
                clear c3
                go_wp2
                go_quiet (fail)
                go_wp2
                go_roundg (gk - 1)
                case measure => omega
                case rel => exact ⟨u + 1, (u : Int), rfl, by go_num, by omega, by omega, by omega, by omega, ⟨ch_drewN HCh.out _⟩, ⟨by apply Kd.R_drewN; exact HO.out⟩, HOB, ⟨by apply pw_below_drewN; exact HB.out⟩, e12⟩
              · have c3d : decide ((rd_T25 l0 la).f3 < (rd_T25 l0 lb).f3) = false := decide_eq_false c3
                have e12 : Aside0 (impl_chains.l1 l0 a1 t us (us.length - (u + 1)) (u + 1) (bn : Int) = impl_chains.l1 l0 a1 t us us.length 0 (-1)) := ⟨by rw [← HHb.out, e10.out, if_neg c3]⟩
                clear c3
                go_wp2
                go_quiet (fail)
                go_wp2
                go_roundg (gk - 1)
                case measure => omega
                case rel => exact ⟨u + 1, (bn : Int), rfl, by go_num, by omega, by omega, by omega, by omega, ⟨ch_drewN HCh.out _⟩, ⟨by apply Kd.R_drewN; exact HO.out⟩, HOB, ⟨by apply pw_below_drewN; exact HB.out⟩, e12⟩
        · have cz2 : ¬ (u : Int) < (us.length : Int) := by omega
          have huu : u = us.length := by omega
          subst huu
          have HBE : Aside0 (impl_chains.l1 l0 a1 t us us.length 0 (-1) = best) := ⟨by have := HHb.out; rw [Nat.sub_self, impl_chains.l1] at this; exact this.symm⟩
          clear HHb
          by_cases b0 : best < 0
          · have b0d : decide (best < 0) = true := decide_eq_true b0
            have HNX : Aside0 (impl_chains.l0 l0 a1 (os.drop (i + 1)) (us ++ [[t]]) = r) := ⟨by have := HH.out; rw [HD.out, impl_chains.l0, HBE.out, if_pos b0] at this; exact this⟩
            clear HBE
            have hll : ps.length = us.length := HCh.out.len
            have hsz : w.heap.size ≤ wr.heap.size := HB.out.size
            have HSZ := Aside0.mk hsz
            clear hsz
            go_wp2_with (first | ((with_reducible refine gate_dst (N := 73) rfl ?_); refine Kd.R_lit (Kd.int .i64) _ 3 ?hg (N := 73) ?hd (xs := [t]) (inner := [.int .i64 t]) (ok := fun _ => True) (okp := fun _ => True) ?hr ?hp (fun _ hk => hk) trivial (Go.RowKit.Below.refl _ _) (Nat.le_refl _) (by simp) ?_; (case hd => rfl); (case hg => rfl); (case hr => first | (go_simp; done) | (go_simp; rfl)); (case hp => exact Kd.reps_scalar [t]); intro v4 w4 ho4 hb4 hg4 hn4; (obtain ⟨gn, cn, e4, gb4, gl4, cl4, gt4⟩ := Kd.R_form ho4 (by simp)); (rw [List.length_singleton] at e4; subst e4); clear hg4 hn4 gb4 gl4 gt4) | ((with_reducible refine gate_builtin (b := .append) (xs := #[.tmp 71, .tmp 74]) rfl ?_); at_builtin; refine Kd.R_append chk (w0 := w) w.heap.size rfl (.tmp 71) (.tmp 74) 60 39 (.slice none 0 0) 24 rfl Try.underlying60 hd_info39 rfl (by decide) (by omega) (.slice Au us.length cu) ps (gn, 1, cn) [.slice (some ⟨gn, 0, none⟩) 1 cn] (fun _ => True) (fun _ => False) rfl rfl ?aP (fun _ hk => hk.elim) ?aF ?aO ?aB ?aS ?aL ?_; (case aP => exact rfl); (case aB => exact below_step HB.out hb4); (case aF => exact (fun _ _ => trivial)); (case aO => exact Kd.R_below HCh.out.outer hb4); (case aS => exact (below_step HB.out hb4).size); (case aL => omega); intro v5 w5 ho5 hb5 hg5 hat5))
            obtain ⟨A5, c5, rfl⟩ := Kd.R_slice ho5
            have hl5 : (ps ++ [(gn, 1, cn)]).length = (us ++ [[t]]).length := by rw [List.length_append, List.length_append, hll]; rfl
            rw [hl5] at ho5 ⊢
            have g1 : Ch w5 w.heap.size ob (.slice A5 (us ++ [[t]]).length c5) (ps ++ [(gn, 1, cn)]) (us ++ [[t]]) := ch_push HOB.out HCh.out t (gn, 1, cn) HSZ.out hb4 ho4 ho5 hg5
            have g2 := ch_keep (Kd.R_below HO.out hb4) (fun g hg => (ch_oty (ch_below HCh.out hb4) g hg).2) hg5
            have g3 : ∀ k, ob = some k → k < w5.heap.size := fun k hk => Nat.lt_of_lt_of_le (HOB.out k hk) (Nat.le_trans hb4.size hg5.size)
            have g4 := ch_in_push _ _ us t hI.out ht0 ht1
            go_roundg (gko - 1)
            case measure => omega
            case rel => exact ⟨i + 1, A5, c5, _, _, rfl, by go_num, by omega, by omega, ⟨g1⟩, ⟨g4⟩, ⟨g2⟩, ⟨g3⟩, ⟨hb5⟩, HNX⟩
          · have b0d : decide (best < 0) = false := decide_eq_false b0
            obtain ⟨bn, hbn⟩ : ∃ bn : Nat, best = (bn : Int) := ⟨best.toNat, by omega⟩
            subst hbn
            have hbu : bn < us.length := by omega
            have HNX : Aside0 (impl_chains.l0 l0 a1 (os.drop (i + 1)) (us.set bn (chl us bn ++ [t])) = r) := ⟨by have := HH.out; rw [HD.out, impl_chains.l0, HBE.out, if_neg b0, Int.toNat_natCast] at this; exact this⟩
            clear HBE b0
            obtain ⟨g', cap', gb, cgb, e1', r1, ⟨rc, r2⟩, r3, r4, r5, r6, r7⟩ := ch_at HCh.out bn hbu
            cases e1'
            have hlc := (hI.out.2 bn hbu).1
            have HIN := Aside0.mk (HCh.out.inner bn hbu).1
            rw [r3] at HIN
            have HTY := ch_typed HCh.out bn hbu
            rw [r3] at HTY
            have hne : g' ≠ gb := by
              obtain ⟨tc, htc⟩ := HTY
              exact fun e => by rw [e, htc] at r2; simp at r2
            have HNE := Aside0.mk hne
            have HR2 := Aside0.mk r2
            have HR3 := Aside0.mk r3
            have HR1 := Aside0.mk r1
            clear hne r2 HTY r3 r6 r1
            have hsz : w.heap.size ≤ wr.heap.size := HB.out.size
            have HSZ := Aside0.mk hsz
            clear hsz
            obtain ⟨lm, hlm⟩ : ∃ q, q = (chl us bn).length := ⟨_, rfl⟩
            rw [← hlm] at r4 r7 hlc
            have HLM := Aside0.mk hlm
            clear hlm
            have pb0 : (0 : Int) ≤ (bn : Int) := by omega
            have pb1 : (bn : Int) < (us.length : Int) := by omega
            go_wp2_with (first | ((with_reducible refine gate_builtin (b := .append) (xs := #[.tmp 81, .tmp 83]) rfl ?_); at_builtin; refine Kd.R_append (Kd.int .i64) (w0 := w) w.heap.size rfl (.tmp 81) (.tmp 83) 39 3 (.int .i64 0) 8 rfl Try.underlying39 info3 rfl (by decide) (by omega) (.slice (some ⟨gb, 0, none⟩) lm cgb) (chl us bn) t [.int .i64 t] (fun k => k = gb ∨ wr.heap.size ≤ k) (fun _ => False) rfl rfl ?aP (fun _ hk => hk.elim) ?aF ?aO ?aB ?aS ?aL ?_; (case aP => exact rfl); (case aB => exact HB.out); (case aF => exact (fun _ hk => Or.inr hk)); (case aO => exact HLM.out ▸ Kd.R_mono HIN.out (fun _ hk => Or.inl hk)); (case aS => exact HSZ.out); (case aL => have := HLM.out; omega); intro v5 w5 ho5 hb5 hg5 hat5; (obtain ⟨g5, c5, e5, gb5, gl5, cl5, gt5⟩ := Kd.R_form ho5 (by simp)); subst e5; have s1 := blk_grown HR2.out hg5 (fun e => HNE.out (Option.some.inj e)); have s2 := hg5.cell r4 (fun e => HNE.out (Option.some.inj e)); have s3 := blk_frozen s1 bn; clear r4 r5 gb5 gl5 gt5 s1))
            obtain ⟨p', g1⟩ := ch_app HOB.out HCh.out bn hbu t _ (by rw [HR3.out]; exact ho5) (by rw [HR3.out]; exact hg5)
            rw [List.length_append, List.length_singleton] at g1
            have hno := (HCh.out.inner bn hbu).2.2
            rw [HR3.out] at hno
            have g2 := Kd.R_grown HO.out hg5 (fun k hk e => hno (by rw [← hk]; exact e.symm))
            have g2' := Kd.R_set g2 (blk_grown HR2.out hg5 (fun e => HNE.out (Option.some.inj e))) ch_q bn (.slice (some ⟨g5, 0, none⟩) ((chl us bn).length + 1) c5)
            have g3 : ∀ k, ob = some k → k < (w5.setCell ⟨g', bn, none⟩ (.slice (some ⟨g5, 0, none⟩) ((chl us bn).length + 1) c5)).heap.size := fun k hk => Nat.lt_of_lt_of_le (HOB.out k hk) (Nat.le_trans hg5.size (by simp [World.setCell]))
            have g4 := ch_in_app _ _ us t bn hbu hI.out ht0 ht1
            go_roundg (gko - 1)
            case measure => omega
            case rel => exact ⟨i + 1, _, _, ps.set bn p', us.set bn (chl us bn ++ [t]), by rw [List.length_set], by go_num, by omega, by omega, ⟨by rw [List.length_set]; exact g1⟩, ⟨g4⟩, ⟨g2'⟩, ⟨g3⟩, ⟨below_set hb5 HR1.out⟩, HNX⟩
    · have cz : ¬ (i : Int) < (os.length : Int) := by omega
      go_wp2
      go_ret
      refine ⟨_, rfl, ?_, HB.out⟩
      have hil : i = os.length := by omega
      have := HH.out
      rw [hil, List.drop_length, impl_chains.l0] at this
      rw [← this]
      exact ch_rows HCh.out
end Go.Proofs.Ytoalolbifakpiaa.P

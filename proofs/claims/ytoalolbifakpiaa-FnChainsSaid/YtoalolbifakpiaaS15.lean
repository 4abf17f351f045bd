/- The program's matching.place: a contract by hand (a recursion that stores into two rows). -/
import Derived.Test.YtoalolbifakpiaaS13
namespace Go.Proofs.Ytoalolbifakpiaa.P
open Go.Proofs Go.Shelf Go.RowKit Go.Sort Go.Proofs.YtoalolbifakpiaaW.PrintWords Go.Proofs.YtoalolbifakpiaaW.PrintLast Go.Proofs.YtoalolbifakpiaaW.PrintMore
set_option linter.unusedVariables false
set_option linter.unusedSimpArgs false

/-- What place finds in memory: the matching's fields, the row of who stands ahead, the row of who was asked. -/
structure PW (w0 W : World) (n : Nat) (turn : Int) (A0 : Option Addr) (c0 bm gb cb gs cs : Nat) (bf : List Int) (sn : List Bool) : Prop where
  m : W.heap[bm]? = some (.cells #[.slice A0 n c0, .int .i64 turn, .slice (some ⟨gb, 0, none⟩) n cb] 66 (0, 0))
  b : Kd.R (Kd.int .i64) 3 W w0.heap.size (fun k => k = gb) (.slice (some ⟨gb, 0, none⟩) n cb) bf
  s : Kd.R Kd.bool 4 W w0.heap.size (fun k => k = gs) (.slice (some ⟨gs, 0, none⟩) n cs) sn
  bl : bf.length = n
  sl : sn.length = n
  hm : w0.heap.size ≤ bm
  B : Go.RowKit.Below w0.heap.size w0 W
  lt : ∀ j, j < n → bf.getD j 0 < n
theorem pw_bt {w0 W : World} {n : Nat} {turn : Int} {A0 : Option Addr} {c0 bm gb cb gs cs : Nat} {bf : List Int} {sn : List Bool} (h : PW w0 W n turn A0 c0 bm gb cb gs cs bf sn) : ∃ cells, W.heap[gb]? = some (.cells cells 3 (0, 0)) := own_typed (Kd.own_of_R h.b) gb rfl
theorem pw_st {w0 W : World} {n : Nat} {turn : Int} {A0 : Option Addr} {c0 bm gb cb gs cs : Nat} {bf : List Int} {sn : List Bool} (h : PW w0 W n turn A0 c0 bm gb cb gs cs bf sn) : ∃ cells, W.heap[gs]? = some (.cells cells 4 (0, 0)) := own_typed (Kd.own_of_R h.s) gs rfl
theorem pw_ne {w0 W : World} {n : Nat} {turn : Int} {A0 : Option Addr} {c0 bm gb cb gs cs : Nat} {bf : List Int} {sn : List Bool} (h : PW w0 W n turn A0 c0 bm gb cb gs cs bf sn) : gb ≠ gs ∧ bm ≠ gb ∧ bm ≠ gs := by
  obtain ⟨x, hx⟩ := pw_bt h
  obtain ⟨y, hy⟩ := pw_st h
  have hm := h.m
  refine ⟨fun e => ?_, fun e => ?_, fun e => ?_⟩
  · rw [e, hy] at hx; simp at hx
  · rw [e, hx] at hm; simp at hm
  · rw [e, hy] at hm; simp at hm
theorem pw_below {w0 W W' : World} {n : Nat} {turn : Int} {A0 : Option Addr} {c0 bm gb cb gs cs : Nat} {bf : List Int} {sn : List Bool} (h : PW w0 W n turn A0 c0 bm gb cb gs cs bf sn) (hb : Go.RowKit.Below W.heap.size W W') : PW w0 W' n turn A0 c0 bm gb cb gs cs bf sn :=
  ⟨blk_below h.m hb, Kd.R_below h.b hb, Kd.R_below h.s hb, h.bl, h.sl, h.hm, below_step h.B hb, h.lt⟩
theorem pw_m {w0 W : World} {n : Nat} {turn : Int} {A0 : Option Addr} {c0 bm gb cb gs cs : Nat} {bf : List Int} {sn : List Bool} (h : PW w0 W n turn A0 c0 bm gb cb gs cs bf sn) : W.cell? ⟨bm, 0, none⟩ = some (.slice A0 n c0) ∧ W.cell? ⟨bm, 1, none⟩ = some (.int .i64 turn) ∧ W.cell? ⟨bm, 2, none⟩ = some (.slice (some ⟨gb, 0, none⟩) n cb) :=
  ⟨by rw [blk_cell h.m]; rfl, by rw [blk_cell h.m]; rfl, by rw [blk_cell h.m]; rfl⟩
theorem pw_bc {w0 W : World} {n : Nat} {turn : Int} {A0 : Option Addr} {c0 bm gb cb gs cs : Nat} {bf : List Int} {sn : List Bool} (h : PW w0 W n turn A0 c0 bm gb cb gs cs bf sn) (i : Nat) (hi : i < n) : W.cell? ⟨gb, i, none⟩ = some (.int .i64 (rd bf (i : Int))) ∧ W.frozen? ⟨gb, i, none⟩ = false := by
  have := Kd.R_celln 0 h.b (i : Int) (by omega) (by omega)
  rw [Int.toNat_natCast] at this
  exact this
theorem pw_sc {w0 W : World} {n : Nat} {turn : Int} {A0 : Option Addr} {c0 bm gb cb gs cs : Nat} {bf : List Int} {sn : List Bool} (h : PW w0 W n turn A0 c0 bm gb cb gs cs bf sn) (i : Nat) (hi : i < n) : W.cell? ⟨gs, i, none⟩ = some (.bool (rdOf false sn (i : Int))) ∧ W.frozen? ⟨gs, i, none⟩ = false := by
  have := Kd.R_celln false h.s (i : Int) (by omega) (by omega)
  rw [Int.toNat_natCast] at this
  exact this
theorem pw_bq : ∀ q, q ∈ 3 :: (Kd.int .i64).E → q ≠ 4 := fun q hq => by
  have : q = 3 := by simpa [Kd.int, Kd.scalar] using hq
  omega
theorem pw_sq : ∀ q, q ∈ 4 :: Kd.bool.E → q ≠ 3 := fun q hq => by
  have : q = 4 := by simpa [Kd.bool, Kd.scalar] using hq
  omega
theorem pw_sput {w0 W : World} {n : Nat} {turn : Int} {A0 : Option Addr} {c0 bm gb cb gs cs : Nat} {bf : List Int} {sn : List Bool} (h : PW w0 W n turn A0 c0 bm gb cb gs cs bf sn) (i : Nat) (x : Bool) : PW w0 (W.setCell ⟨gs, i, none⟩ (.bool x)) n turn A0 c0 bm gb cb gs cs bf (sn.set i x) := by
  obtain ⟨n1, n2, n3⟩ := pw_ne h
  obtain ⟨y, hy⟩ := pw_st h
  have hp := (Kd.R_putg h.s (i : Int) x).1
  rw [Int.toNat_natCast] at hp
  exact ⟨blk_far h.m n3 _, Kd.R_set h.b hy pw_bq i _, hp, h.bl, by rw [List.length_set]; exact h.sl, h.hm, below_set h.B (own_base (Kd.own_of_R h.s) gs rfl), h.lt⟩
theorem pw_bput {w0 W : World} {n : Nat} {turn : Int} {A0 : Option Addr} {c0 bm gb cb gs cs : Nat} {bf : List Int} {sn : List Bool} (h : PW w0 W n turn A0 c0 bm gb cb gs cs bf sn) (i : Nat) (x : Int) (hx : x < n) : PW w0 (W.setCell ⟨gb, i, none⟩ (.int .i64 x)) n turn A0 c0 bm gb cb gs cs (bf.set i x) sn := by
  obtain ⟨n1, n2, n3⟩ := pw_ne h
  obtain ⟨y, hy⟩ := pw_bt h
  have hp := (Kd.R_putg h.b (i : Int) x).1
  rw [Int.toNat_natCast] at hp
  refine ⟨blk_far h.m n2 _, hp, Kd.R_set h.s hy pw_sq i _, by rw [List.length_set]; exact h.bl, h.sl, h.hm, below_set h.B (own_base (Kd.own_of_R h.b) gb rfl), fun j hj => ?_⟩
  have hbl := h.bl
  rw [List.getD_eq_getElem?_getD, List.getElem?_set]
  by_cases e : i = j
  · rw [if_pos e, if_pos (by omega)]; exact hx
  · rw [if_neg e, ← List.getD_eq_getElem?_getD]; exact h.lt j hj
theorem pw_rdlt {w0 W : World} {n : Nat} {turn : Int} {A0 : Option Addr} {c0 bm gb cb gs cs : Nat} {bf : List Int} {sn : List Bool} (h : PW w0 W n turn A0 c0 bm gb cb gs cs bf sn) (i : Nat) (hi : i < n) : rd bf (i : Int) < n := by
  unfold rd; rw [Int.toNat_natCast]; exact h.lt i hi

set_option maxHeartbeats 32000000 in
set_option maxRecDepth 100000 in
theorem hd_place (w0 : World) (l0 : List S25) (turn : Int) (A0 : Option Addr) (c0 bm gb cb gs cs : Nat) (hr0 : Kd.C k25 w0 A0 l0.length l0) (h40 : l0.length ≤ 40) : ∀ (N k : Nat), k ≤ N → ∀ (a : Nat) (bf : List Int) (sn : List Bool) (r : Bool × List Int × List Bool) (W : World), a < l0.length → PW w0 W l0.length turn A0 c0 bm gb cb gs cs bf sn → impl_Fleet.l0 l0 turn k (a : Int) bf sn 0 = some r →
    Calls Try.prog 62 #[.pointer (some ⟨bm, 0, none⟩), .int .i64 (a : Int), .slice (some ⟨gs, 0, none⟩) l0.length cs] W fun e w' => e = .returned (.bool r.1) ∧ PW w0 w' l0.length turn A0 c0 bm gb cb gs cs r.2.1 r.2.2
  | 0, k, hk, a, bf, sn, r, W, ha, hP, h => by
    obtain rfl : k = 0 := by omega
    simp [impl_Fleet.l0] at h
  | N + 1, k, hk, a, bf, sn, r, W, ha, hP, h => by
    have IH := Aside0.mk (hd_place w0 l0 turn A0 c0 bm gb cb gs cs hr0 h40 N)
    have hu39 := Try.underlying39; have hu31 := Try.underlying31; have hu25 := Try.underlying25; have hu66 := Try.underlying66; have hu68 := Try.underlying68; have mixed : Try.prog.follows Departure.mixedOrders = true := by kernel_rfl
    have HR0 := Aside0.mk hr0
    have HP := Aside0.mk hP
    have HF := Aside0.mk h
    obtain ⟨m0, m1, m2⟩ := pw_m hP
    clear hr0 hP h
    go_enter Try.func62, Try.ntmps62
    go_wp2
    clear m0 m1 m2
    go_loopg [13] k (fun kq v13 w' => ∃ (b : Nat) (bf : List Int) (sn : List Bool), v13 = .int .i64 (b : Int) ∧ b ≤ l0.length ∧ kq ≤ k ∧ Aside0 (PW w0 w' l0.length turn A0 c0 bm gb cb gs cs bf sn) ∧ Aside0 (impl_Fleet.l0 l0 turn kq (a : Int) bf sn (b : Int) = some r))
    case atStart => exact ⟨0, bf, sn, rfl, by omega, Nat.le_refl _, HP, HF⟩
    case round =>
      clear HP HF
      clear bf sn
      obtain ⟨b, bf, sn, rfl, hb, hkq, HP, HF⟩ := hrel
      cases gk with
      | zero => exact absurd HF.out (by simp [impl_Fleet.l0])
      | succ k1 =>
        by_cases c : b < l0.length
        · have cz : (b : Int) < (l0.length : Int) := by omega
          have b0 : (0 : Int) ≤ (b : Int) := by omega
          have a0 : (0 : Int) ≤ (a : Int) := by omega
          have a1 : (a : Int) < (l0.length : Int) := by omega
          obtain ⟨m0, m1, m2⟩ := pw_m HP.out
          obtain ⟨hsc, hsf⟩ := pw_sc HP.out b c
          obtain ⟨s, hs⟩ : ∃ s, s = rdOf false sn (b : Int) := ⟨_, rfl⟩
          rw [← hs] at hsc
          have H := HF.out
          rw [impl_Fleet.l0, if_pos cz, ← hs, Int.toNat_natCast] at H
          have HS := Aside0.mk hs
          clear HF hs hsf
          have H2 := Aside0.mk H
          clear H
          cases s with
          | true =>
            have HN : Aside0 (impl_Fleet.l0 l0 turn k1 (a : Int) bf sn ((b : Int) + 1) = some r) := ⟨by have := H2.out; rw [if_pos rfl] at this; exact this⟩
            clear H2
            go_wp2
            go_quiet (fail)
            go_wp2
            go_roundg k1
            case measure => omega
            case rel => exact ⟨b + 1, bf, sn, by go_num, by omega, by omega, ⟨pw_below HP.out ⟨rfl, rfl, rfl, Nat.le_refl _, fun _ _ => rfl⟩⟩, ⟨by have := HN.out; rw [show ((b : Int) + 1) = ((b + 1 : Nat) : Int) by omega] at this; exact this⟩⟩
          | false =>
            obtain ⟨ad, ea, hy0, hy1, hy2, hy3, hy4⟩ := at_T25 HR0.out (a : Int) a0 a1
            obtain ⟨ad', ea', hz0, hz1, hz2, hz3, hz4⟩ := at_T25 HR0.out (b : Int) b0 cz
            cases ea
            cases ea'
            rw [Int.toNat_natCast] at hy0 hy1 hy2 hy3 hy4 hz0 hz1 hz2 hz3 hz4
            have BB := HP.out.B
            replace hy0 := (BB.cell (World.block_lt_of_cell? w0 _ hy0)).trans hy0
            replace hy1 := (BB.cell (World.block_lt_of_cell? w0 _ hy1)).trans hy1
            replace hy2 := (BB.cell (World.block_lt_of_cell? w0 _ hy2)).trans hy2
            replace hy3 := (BB.cell (World.block_lt_of_cell? w0 _ hy3)).trans hy3
            replace hy4 := (BB.cell (World.block_lt_of_cell? w0 _ hy4)).trans hy4
            replace hz0 := (BB.cell (World.block_lt_of_cell? w0 _ hz0)).trans hz0
            replace hz1 := (BB.cell (World.block_lt_of_cell? w0 _ hz1)).trans hz1
            replace hz2 := (BB.cell (World.block_lt_of_cell? w0 _ hz2)).trans hz2
            replace hz3 := (BB.cell (World.block_lt_of_cell? w0 _ hz3)).trans hz3
            replace hz4 := (BB.cell (World.block_lt_of_cell? w0 _ hz4)).trans hz4
            clear BB
            obtain ⟨fl, hfl⟩ : ∃ q, q = impl_Fleet.l3 turn (rd_T25 l0 (a : Int)) (rd_T25 l0 (b : Int)) := ⟨_, rfl⟩
            have hfl2 : fl = impl_chains.l3 turn (rd_T25 l0 (a : Int)) (rd_T25 l0 (b : Int)) := hfl
            have hcall := fun (n : Nat) (os : Array Obj) => hd_follows (rd_T25 l0 (a : Int)) (rd_T25 l0 (b : Int)) turn (grow (wr.drewN n) os)
            rw [← hfl2] at hcall
            have H3 : Aside0 ((if fl = false then impl_Fleet.l0 l0 turn k1 (a : Int) bf sn ((b : Int) + 1) else (if rd bf (b : Int) < 0 then some (true, bf.set b (a : Int), sn.set b true) else ((impl_Fleet.l0 l0 turn k1 (rd bf (b : Int)) bf (sn.set b true) 0).bind fun r => if r.1 = true then some (true, r.2.1.set b (a : Int), r.2.2) else impl_Fleet.l0 l0 turn k1 (a : Int) r.2.1 r.2.2 ((b : Int) + 1)))) = some r) := ⟨by have := H2.out; rw [if_neg (by simp), ← hfl] at this; exact this⟩
            clear H2 hfl hfl2
            have km0 := fun n os => sy_keep m0 n os
            have km1 := fun n os => sy_keep m1 n os
            have ks := fun n os => sy_keep hsc n os
            have ky0 := fun n os => sy_keep hy0 n os
            have ky1 := fun n os => sy_keep hy1 n os
            have ky2 := fun n os => sy_keep hy2 n os
            have ky3 := fun n os => sy_keep hy3 n os
            have ky4 := fun n os => sy_keep hy4 n os
            have kz0 := fun n os => sy_keep hz0 n os
            have kz1 := fun n os => sy_keep hz1 n os
            have kz2 := fun n os => sy_keep hz2 n os
            have kz3 := fun n os => sy_keep hz3 n os
            have kz4 := fun n os => sy_keep hz4 n os
            clear m0 m1 m2 hsc hy0 hy1 hy2 hy3 hy4 hz0 hz1 hz2 hz3 hz4
            go_wp2
            go_quiet_grown (first | (go_at_call 53; refine Calls.grown_of (hcall _ _)))
            clear hcall km0 km1 ks ky0 ky1 ky2 ky3 ky4 kz0 kz1 kz2 kz3 kz4
            have hb3 : Go.RowKit.Below wr.heap.size wr (grow (wr.drewN nq) osq) := ⟨rfl, rfl, rfl, by rw [size_grow]; show wr.heap.size ≤ wr.heap.size + _; omega, fun k hk => heap_grow_old _ _ hk⟩
            generalize hW3 : grow (wr.drewN nq) osq = w3 at hb3 ⊢
            clear hW3
            have hp3 := pw_below HP.out hb3
            clear HP hb3
            have HP := Aside0.mk hp3
            clear hp3
            cases fl with
            | false =>
              have HN : Aside0 (impl_Fleet.l0 l0 turn k1 (a : Int) bf sn ((b : Int) + 1) = some r) := ⟨by have := H3.out; rw [if_pos rfl] at this; exact this⟩
              clear H3
              go_wp2
              go_roundg k1
              case measure => omega
              case rel => exact ⟨b + 1, bf, sn, by go_num, by omega, by omega, HP, ⟨by have := HN.out; rw [show ((b : Int) + 1) = ((b + 1 : Nat) : Int) by omega] at this; exact this⟩⟩
            | true =>
              obtain ⟨hsc, hsf⟩ := pw_sc HP.out b c
              obtain ⟨hbc, hbf⟩ := pw_bc HP.out b c
              have hlt := pw_rdlt HP.out b c
              obtain ⟨n1, n2, n3⟩ := pw_ne HP.out
              obtain ⟨v, hv⟩ : ∃ v, v = rd bf (b : Int) := ⟨_, rfl⟩
              have H4 : Aside0 ((if v < 0 then some (true, bf.set b (a : Int), sn.set b true) else ((impl_Fleet.l0 l0 turn k1 v bf (sn.set b true) 0).bind fun r => if r.1 = true then some (true, r.2.1.set b (a : Int), r.2.2) else impl_Fleet.l0 l0 turn k1 (a : Int) r.2.1 r.2.2 ((b : Int) + 1))) = some r) := ⟨by have := H3.out; rw [if_neg (by simp), ← hv] at this; exact this⟩
              have hp4 := pw_sput HP.out b true
              rw [← hv] at hbc hlt
              have HP4 := Aside0.mk hp4
              have HV := Aside0.mk hv
              clear H3 hv hp4
              go_upto_region 6 with (fail)
              generalize hW4 : w3.setCell ⟨gs, b, none⟩ (.bool true) = w4 at HP4 ⊢
              clear hW4 HP hsc hsf hbc hbf n1 n2 n3
              obtain ⟨m0, m1, m2⟩ := pw_m HP4.out
              obtain ⟨hbc, hbf⟩ := pw_bc HP4.out b c
              rw [← HV.out] at hbc
              by_cases cv : v < 0
              · have cvd : decide (v < 0) = true := decide_eq_true cv
                have hr : r = (true, bf.set b (a : Int), sn.set b true) := by have := H4.out; rw [if_pos cv] at this; exact (Option.some.inj this).symm
                subst hr
                clear H4 cv
                go_wp2
                go_ret
                exact ⟨rfl, pw_bput HP4.out b (a : Int) a1⟩
              · have cvd : decide (v < 0) = false := decide_eq_false cv
                have H5 := H4.out
                rw [if_neg cv] at H5
                obtain ⟨r2, hr2, H6⟩ := Option.bind_eq_some_iff.1 H5
                obtain ⟨vn, rfl⟩ : ∃ vn : Nat, v = (vn : Int) := ⟨v.toNat, by omega⟩
                have hcall := IH.out k1 (by omega) vn bf (sn.set b true) r2 w4 (by omega) HP4.out hr2
                have HC := Aside0.mk hcall
                have HH := Aside0.mk H6
                clear H4 H5 H6 hr2 hcall cv IH
                obtain ⟨q, bf2, sn2⟩ := r2
                cases q with
                | true =>
                  have hr : r = (true, bf2.set b (a : Int), sn2) := by have := HH.out; rw [if_pos rfl] at this; exact (Option.some.inj this).symm
                  subst hr
                  clear HH HP4
                  go_wp2_with (go_at_call 62; refine HC.out.mono ?_; rintro e_ w5 ⟨rfl, hp5⟩; (obtain ⟨m3, m4, m5⟩ := pw_m hp5); (obtain ⟨hbc2, hbf2⟩ := pw_bc hp5 b c); have HP5 := Aside0.mk hp5; clear hp5 m0 m1 m2 hbc hbf)
                  go_ret
                  exact ⟨rfl, pw_bput HP5.out b (a : Int) a1⟩
                | false =>
                  have HN : Aside0 (impl_Fleet.l0 l0 turn k1 (a : Int) bf2 sn2 ((b : Int) + 1) = some r) := ⟨by have := HH.out; rw [if_neg (by simp)] at this; exact this⟩
                  clear HH HP4
                  go_wp2_with (go_at_call 62; refine HC.out.mono ?_; rintro e_ w5 ⟨rfl, hp5⟩; have HP5 := Aside0.mk hp5; clear hp5 m0 m1 m2 hbc hbf)
                  go_roundg k1
                  case measure => omega
                  case rel => exact ⟨b + 1, bf2, sn2, by go_num, by omega, by omega, HP5, ⟨by have := HN.out; rw [show ((b : Int) + 1) = ((b + 1 : Nat) : Int) by omega] at this; exact this⟩⟩
        · have cz : ¬ (b : Int) < (l0.length : Int) := by omega
          have hr : r = (false, bf, sn) := by have := HF.out; rw [impl_Fleet.l0, if_neg cz] at this; exact (Option.some.inj this).symm
          subst hr
          clear HF
          go_wp2
          go_ret
          exact ⟨rfl, HP.out⟩
end Go.Proofs.Ytoalolbifakpiaa.P

/- The program's arrivals: a contract by hand (rows of arrays). -/
import Derived.Test.YtdpjoblnjjkbfaaDoorF2a
import Derived.BigRegion
namespace Go.Proofs.YtdpjoblnjjkbfaaDoor.P
open Go.RowKit Go.Proofs.YtdpjoblnjjkbfaaDoorW.PrintWords Go.Proofs.YtdpjoblnjjkbfaaDoorW.PrintLast Go.Proofs.YtdpjoblnjjkbfaaDoorW.PrintMore
attribute [local go_sem] max2_int min2_int max_two min_two max_three min_three max_four min_four   -- for this text's walks alone
set_option linter.unusedVariables false
set_option linter.unusedSimpArgs false
def ar_ok (l : List S46) : Prop := l.length ≤ 24 ∧ ∀ t, t ∈ l → t.f1.length ≤ 12 ∧ ∀ c, c ∈ t.f1 → 0 ≤ c.f0 ∧ c.f0 < 30 ∧ 0 ≤ c.f1 ∧ c.f1 ≤ 100000 ∧ 0 ≤ c.f2 ∧ c.f2 ≤ 100000
theorem ar_ok_of (l : List S46) (h : impl_arrivals.l4 l = true) : ar_ok l := by
 unfold impl_arrivals.l4 at h
 rw [Bool.and_eq_true, decide_eq_true_eq, List.all_eq_true] at h
 refine ⟨h.1, fun t ht => ?_⟩
 have h2 := h.2 t ht
 rw [Bool.and_eq_true, decide_eq_true_eq, List.all_eq_true] at h2
 refine ⟨h2.1, fun c hc => ?_⟩
 have h3 := h2.2 c hc
 simp only [Bool.and_eq_true, decide_eq_true_eq] at h3
 obtain ⟨⟨⟨⟨⟨a, b⟩, c⟩, d⟩, e⟩, f⟩ := h3
 exact ⟨a, b, c, d, e, f⟩
def ar_in (o : List Int) : Prop := ∀ j, 0 ≤ o.getD j 0 ∧ o.getD j 0 ≤ 100001
theorem ar_in_set (o : List Int) (i : Nat) (v : Int) (h : ar_in o) (h0 : 0 ≤ v) (h1 : v ≤ 100001) : ar_in (o.set i v) := by
 intro j
 rw [List.getD_eq_getElem?_getD, List.getElem?_set]
 by_cases e : i = j
 · rw [if_pos e]
   split
   · exact ⟨h0, h1⟩
   · exact ⟨by simp, by simp⟩
 · rw [if_neg e, ← List.getD_eq_getElem?_getD]; exact h j
theorem ar_in_start (n : Nat) : ar_in (List.replicate n 100001) := by
 intro j
 rw [List.getD_eq_getElem?_getD, List.getElem?_replicate]
 split
 · exact ⟨by simp, by simp⟩
 · exact ⟨by simp, by simp⟩
theorem ar_call_t (h : Nat) (wait : Int) (o o1 : List Int) (c : S43) (n : Nat) (hn : c.f0 = (n : Int)) (he : o1 = o.set ((h + 1) * 30 + n) (min (o.getD ((h + 1) * 30 + n) 0) c.f1)) : impl_arrivals.l0 h wait (o, true) c = (o1, true) := by
 unfold impl_arrivals.l0
 rw [hn, Int.toNat_natCast]
 simp [he]
theorem ar_call_f (h : Nat) (wait : Int) (o : List Int) (c : S43) (n : Nat) (hn : c.f0 = (n : Int)) (b : Bool) (hb : b = (decide (o.getD (h * 30 + n) 0 < 100001) && decide (o.getD (h * 30 + n) 0 + wait ≤ c.f2))) : impl_arrivals.l0 h wait (o, false) c = (o, b) := by
 unfold impl_arrivals.l0
 rw [hn, Int.toNat_natCast]
 simp [hb]
set_option maxHeartbeats 16000000 in
set_option maxRecDepth 100000 in
theorem hd_arrivals (A0 : Option Addr) (c0 : Nat) (l0 : List (S46)) (fr mi ch : Int) (hops : Nat) (w : World) (hr0 : Kd.C k46 w A0 l0.length l0) (hc0 : l0.length ≤ c0) (h5 : hops ≤ 5) (hf : 0 ≤ fr ∧ fr < 30) (hm : 0 ≤ mi ∧ mi ≤ 100000) (hch : 0 ≤ ch ∧ ch ≤ 60) (hok : ar_ok l0) :
 Calls Tryd.prog 57 #[.slice A0 l0.length c0, .int .i64 fr, .int .i64 mi, .int .i64 ch, .int .i64 (hops : Int)] w fun e w' => ∃ g cap, e = .returned (.slice (some ⟨g, 0, none⟩) (hops + 1) cap) ∧ AR w' g (hops + 1) cap (impl_arrivals.l3 l0 fr mi ch hops) ∧ w.heap.size ≤ g ∧ Below w.heap.size w w' := by
 have hu70 := Tryd.underlying70; have hu74 := Tryd.underlying74; have hu46 := Tryd.underlying46; have hu27 := Tryd.underlying27; have hu43 := Tryd.underlying43; have hu44 := Tryd.underlying44; have mixed : Tryd.prog.follows Departure.mixedOrders = true := by kernel_rfl
 have HR0 := Aside0.mk hr0
 clear hr0
 go_enter Tryd.func57, Tryd.ntmps57
 go_wp2_with (first | ((with_reducible refine gate_dst (N := 24) rfl ?_); refine Kd.R_make (Kd.raw 30) _ 74 rfl (N := 24) rfl 70 _ _ rfl ((hops : Int) + 1) (by first | rfl | (go_simp; done) | (go_simp; rfl)) (by first | rfl | (go_simp; done) | (go_simp; rfl)) Tryd.underlying70 (.agg zs30.toArray) 240 hd_info74 rfl (by decide) (by omega) zs30 (ok := fun _ => True) (okp := fun _ => True) ?hz (fun _ hk => hk) trivial (by omega) (by omega) (Below.refl _ _) (Nat.le_refl _) ?_; (case hz => exact ⟨rfl, rfl, by decide⟩); intro v3 w3 ho3 hb3 hg3 hn3; rw [show ((hops : Int) + 1).toNat = hops + 1 by omega] at ho3; (obtain ⟨g, cap, e3, hgb, har⟩ := ar_made (by omega) ho3); subst e3))
 have HB := Aside0.mk hb3
 have HGB := Aside0.mk hgb
 have HA := Aside0.mk har
 clear hb3 hgb har ho3 hg3 hn3
 have HL0 : Aside0 (ar_fill (hops + 1) 0 (List.replicate ((hops + 1) * 30) 0)) := ⟨fun j hj => absurd hj (by omega)⟩
 go_loopg [27] (hops + 2) (fun kq v27 w' => ∃ (h : Nat) (o : List Int), v27 = .int .i64 (h : Int) ∧ h ≤ hops + 1 ∧ hops + 2 ≤ h + kq ∧ Aside0 (AR w' g (hops + 1) cap o) ∧ Aside0 (ar_fill (hops + 1) (h * 30) o) ∧ Aside0 (Below w.heap.size w w'))
 case atStart => exact ⟨0, _, rfl, by omega, by omega, HA, ⟨by rw [Nat.zero_mul]; exact HL0.out⟩, HB⟩
 case round =>
  clear HA HL0 HB
  obtain ⟨h, o, rfl, hh, hg, HA, HL, HB⟩ := hrel
  obtain ⟨gko, hgko⟩ : ∃ q, q = gk := ⟨_, rfl⟩
  by_cases c : h < hops + 1
  · have cz : (h : Int) < (hops : Int) + 1 := by omega
    have h0 : (0 : Int) ≤ (h : Int) := by omega
    go_wp2
    go_loopg [30] 31 (fun kq v30 w' => ∃ (x : Nat) (o : List Int), v30 = .int .i64 (x : Int) ∧ x ≤ 30 ∧ 31 ≤ x + kq ∧ Aside0 (AR w' g (hops + 1) cap o) ∧ Aside0 (ar_fill (hops + 1) (h * 30 + x) o) ∧ Aside0 (Below w.heap.size w w'))
    case atStart => exact ⟨0, o, rfl, by omega, by omega, HA, HL, HB⟩
    case round =>
     clear HA HL HB
     obtain ⟨x, o, rfl, hx, hg2, HA, HL, HB⟩ := hrel
     by_cases c2 : x < 30
     · have cz2 : (x : Int) < 30 := by omega
       have x0 : (0 : Int) ≤ (x : Int) := by omega
       obtain ⟨hc1, hc2⟩ := ar_cell HA.out (h * 30 + x) (by omega)
       go_wp2
       go_roundg (gk - 1)
       case measure => omega
       case rel => exact ⟨x + 1, o.set (h * 30 + x) 100001, by go_num, by omega, by omega, ⟨ar_set HA.out _ _⟩, ⟨ar_fill_step (hops + 1) (h * 30 + x) o HA.out.1 HL.out (show h * 30 + x < (hops + 1) * 30 by omega)⟩, ⟨below_set HB.out HGB.out⟩⟩
     · have cz2 : ¬ (x : Int) < 30 := by omega
       have xe : x = 30 := by omega
       subst xe
       go_wp2
       go_roundg (gko - 1)
       case measure => omega
       case rel => exact ⟨h + 1, o, by go_num, by omega, by omega, HA, ⟨by rw [Nat.add_mul, Nat.one_mul]; exact HL.out⟩, HB⟩
  · have cz : ¬ (h : Int) < (hops : Int) + 1 := by omega
    have he : h = hops + 1 := by omega
    subst he
    have hoe := ar_fill_end _ _ HA.out.1 HL.out
    subst hoe
    clear c cz hh hg HL hgko gko
    obtain ⟨fn, hfn⟩ : ∃ q : Nat, fr = (q : Int) := ⟨fr.toNat, by omega⟩
    subst hfn
    have hf1 : fn < 30 := by omega
    have hc := ar_cell HA.out fn (by omega)
    obtain ⟨hc1, hc2⟩ := hc
    obtain ⟨o0, ho0⟩ : ∃ q, q = (List.replicate ((hops + 1) * 30) (100001 : Int)).set fn mi := ⟨_, rfl⟩
    have HS := ar_set HA.out fn mi
    rw [← ho0] at HS
    have HI0 : Aside0 (ar_in o0) := ⟨by rw [ho0]; exact ar_in_set _ _ _ (ar_in_start _) hm.1 (by omega)⟩
    have HALL : Aside0 (impl_arrivals.l3 l0 (fn : Int) mi ch hops = impl_arrivals.l2 l0 ch hops o0) := ⟨by rw [ho0]; unfold impl_arrivals.l3; rw [Int.toNat_natCast]⟩
    have HB2 := below_set (j := fn) (v := .int .i64 mi) HB.out HGB.out
    have hl24 := hok.1
    have HOK := Aside0.mk hok
    clear hok ho0 hm HB HA
    have HS := Aside0.mk HS
    have HB := Aside0.mk HB2
    clear HB2; go_wp2
    go_loopg [14, 15] (hops + 1) (fun kq v14 v15 w' => ∃ (h : Nat) (wt : Int) (o : List Int), v14 = .int .i64 wt ∧ v15 = .int .i64 (h : Int) ∧ h ≤ hops ∧ hops + 1 ≤ h + kq ∧ wt = (if h = 0 then 0 else ch) ∧ Aside0 (o = impl_arrivals.l2 l0 ch h o0) ∧ Aside0 (ar_in o) ∧ Aside0 (AR w' g (hops + 1) cap o) ∧ Aside0 (Below w.heap.size w w'))
    case atStart => exact ⟨0, 0, o0, rfl, rfl, by omega, by omega, by rw [if_pos rfl], ⟨rfl⟩, HI0, HS, HB⟩
    case round =>
     clear HS HB HI0 hc1 hc2
     obtain ⟨h, wt, o, rfl, rfl, hh, hg, hwt, HO, HI, HA, HB⟩ := hrel
     obtain ⟨gko, hgko⟩ : ∃ q, q = gk := ⟨_, rfl⟩
     have hw0 : 0 ≤ wt := by split at hwt <;> omega
     have hw1 : wt ≤ 60 := by split at hwt <;> omega
     have HWT := Aside0.mk hwt
     clear hwt
     by_cases c : h < hops
     · have cz : (h : Int) < (hops : Int) := by omega
       have h0 : (0 : Int) ≤ (h : Int) := by omega
       go_wp2
       have HT : Aside0 (o = (l0.take 0).foldl (impl_arrivals.l1 h wt) o) := ⟨rfl⟩
       go_loopg [52] (l0.length + 1) (fun kq v52 w' => ∃ (i : Nat) (o1 : List Int), v52 = .int .i64 (i : Int) ∧ i ≤ l0.length ∧ l0.length + 1 ≤ i + kq ∧ Aside0 (o1 = (l0.take i).foldl (impl_arrivals.l1 h wt) o) ∧ Aside0 (ar_in o1) ∧ Aside0 (AR w' g (hops + 1) cap o1) ∧ Aside0 (Below w.heap.size w w'))
       case atStart => exact ⟨0, o, rfl, by omega, by omega, HT, HI, HA, HB⟩
       case round =>
        clear HT HI HA HB
        obtain ⟨i, o1, rfl, hi, hg2, HT, HI, HA, HB⟩ := hrel
        obtain ⟨gkp, hgkp⟩ : ∃ q, q = gk := ⟨_, rfl⟩
        by_cases c2 : i < l0.length
        · have cz2 : (i : Int) < (l0.length : Int) := by omega
          have i0 : (0 : Int) ≤ (i : Int) := by omega
          obtain ⟨adT, AT, cT, eT, hx0, hx1, hl1, hi1⟩ := at_T46 HR0.out (i : Int) i0 cz2
          cases eT
          rw [Int.toNat_natCast] at hx0 hx1
          replace hx0 := (HB.out.cell (World.block_lt_of_cell? w _ hx0)).trans hx0
          replace hx1 := (HB.out.cell (World.block_lt_of_cell? w _ hx1)).trans hx1
          have hrd := ar_rd46 l0 i c2
          have hmem := HOK.out.2 l0[i] (List.getElem_mem c2)
          rw [← hrd] at hmem
          have htake := ar_take (impl_arrivals.l1 h wt) o l0 i c2
          rw [← HT.out, ← hrd] at htake
          clear hrd
          generalize rd_T46 l0 (i : Int) = t at hx0 hx1 hl1 hi1 hmem htake
          have HC := Aside0.mk hi1
          have HCL := Aside0.mk hmem.2
          have hcl := hmem.1
          have HTK := Aside0.mk htake
          clear hi1 hl1 hmem htake HT
          go_wp2_with (first | ((with_reducible refine gate_dst (N := 17) rfl ?_); refine box_event ?hg (N := 17) ?hd (cs := #[.string (⟨#[]⟩ : ByteArray), .slice none 0 0]) (t := 46) ?hr ?_; (case hd => rfl); (case hg => rfl); (case hr => first | (go_simp; done) | (go_simp; rfl)); intro gb hgb w8 hbox hb; have hgn : g ≠ gb := (by rw [hgb]; exact Nat.ne_of_lt (ar_lt HA.out)); have HGN := Aside0.mk hgn; have HGB2 : Aside0 (w.heap.size ≤ gb) := ⟨by rw [hgb]; exact below_size HB.out⟩; have HA8 := Aside0.mk (ar_below HA.out hb); have HB8 := Aside0.mk (below_step HB.out hb); have HBX := Aside0.mk hbox; have hcz0 : w8.cell? ⟨gb, 0, none⟩ = some (.string (⟨#[]⟩ : ByteArray)) := (blk_cell hbox 0).trans rfl; have hcz1 : w8.cell? ⟨gb, 1, none⟩ = some (.slice none 0 0) := (blk_cell hbox 1).trans rfl; have hfz0 := blk_frozen hbox 0; have hfz1 := blk_frozen hbox 1; clear hbox hb hgb hgn HA HB))
          have HA2 := ar_far (ar_far HA8.out HGN.out 0 (.string t.f0)) HGN.out 1 (.slice AT t.f1.length cT)
          have HB2 := below_set (j := 1) (v := .slice AT t.f1.length cT) (below_set (j := 0) (v := .string t.f0) HB8.out HGB2.out) HGB2.out
          generalize hW1 : ((w8.setCell { block := gb, off := 0 } (Value.string t.f0)).setCell { block := gb, off := 1 } (Value.slice AT t.f1.length cT)) = W1 at HA2 HB2 ⊢
          clear hW1 hx0 hx1 hcz0 hcz1 hfz0 hfz1 HA8 HB8 HBX
          have HA := Aside0.mk HA2
          have HB := Aside0.mk HB2
          clear HA2 HB2
          have HF : Aside0 ((o1, false) = (t.f1.take 0).foldl (impl_arrivals.l0 h wt) (o1, false)) := ⟨rfl⟩
          go_loopg [18, 59] (t.f1.length + 1) (fun kq v18 v59 w' => ∃ (j : Nat) (o2 : List Int) (ab : Bool), v18 = .bool ab ∧ v59 = .int .i64 (j : Int) ∧ j ≤ t.f1.length ∧ t.f1.length + 1 ≤ j + kq ∧ Aside0 ((o2, ab) = (t.f1.take j).foldl (impl_arrivals.l0 h wt) (o1, false)) ∧ Aside0 (ar_in o2) ∧ Aside0 (AR w' g (hops + 1) cap o2) ∧ Aside0 (Below w.heap.size w w'))
          case atStart => exact ⟨0, o1, false, rfl, rfl, by omega, by omega, HF, HI, HA, HB⟩
          case round =>
           clear HF HI HA HB
           obtain ⟨j, o2, ab, rfl, rfl, hj, hg3, HF, HI, HA, HB⟩ := hrel
           obtain ⟨gkr, hgkr⟩ : ∃ q, q = gk := ⟨_, rfl⟩
           by_cases c3 : j < t.f1.length
           · have cz3 : (j : Int) < (t.f1.length : Int) := by omega
             have j0 : (0 : Int) ≤ (j : Int) := by omega
             obtain ⟨adC, eC, hx0, hx1, hx2⟩ := at_T43 HC.out (j : Int) j0 cz3
             cases eC
             rw [Int.toNat_natCast] at hx0 hx1 hx2
             replace hx0 := (HB.out.cell (World.block_lt_of_cell? w _ hx0)).trans hx0
             replace hx1 := (HB.out.cell (World.block_lt_of_cell? w _ hx1)).trans hx1
             replace hx2 := (HB.out.cell (World.block_lt_of_cell? w _ hx2)).trans hx2
             have hrd := ar_rd43 t.f1 j c3
             have hmem := HCL.out t.f1[j] (List.getElem_mem c3)
             rw [← hrd] at hmem
             have htake := ar_take (impl_arrivals.l0 h wt) (o1, false) t.f1 j c3
             rw [← HF.out, ← hrd] at htake
             clear hrd
             generalize rd_T43 t.f1 (j : Int) = k at hx0 hx1 hx2 hmem htake
             obtain ⟨kn, ka, kd⟩ := k
             dsimp only at hx0 hx1 hx2 hmem
             obtain ⟨hn0, hn1, ha0, ha1, hd0, hd1⟩ := hmem
             obtain ⟨n, hn⟩ : ∃ q : Nat, kn = (q : Int) := ⟨kn.toNat, by omega⟩
             subst hn
             have HTK2 := Aside0.mk htake
             clear htake HF
             have hx1b := HI.out ((h + 1) * 30 + n)
             have hx0b := HI.out (h * 30 + n)
             obtain ⟨y1, hy1⟩ : ∃ q, q = o2.getD ((h + 1) * 30 + n) 0 := ⟨_, rfl⟩
             obtain ⟨y0, hy0⟩ : ∃ q, q = o2.getD (h * 30 + n) 0 := ⟨_, rfl⟩
             rw [← hy1] at hx1b
             rw [← hy0] at hx0b
             have HY1 := Aside0.mk hy1
             have HY0 := Aside0.mk hy0
             clear hy0 hy1
             cases ab with
             | true =>
              go_wp2_with (first | ((with_reducible refine gate_dst (N := 20) rfl ?_); refine box_event ?hg (N := 20) ?hd (cs := #[.int .i64 0, .int .i64 0, .int .i64 0]) (t := 43) ?hr ?_; (case hd => rfl); (case hg => rfl); (case hr => first | (go_simp; done) | (go_simp; rfl)); intro gc hgb w9 hbox hb; have hgn : g ≠ gc := (by rw [hgb]; exact Nat.ne_of_lt (ar_lt HA.out)); have HGN := Aside0.mk hgn; have HGB2 : Aside0 (w.heap.size ≤ gc) := ⟨by rw [hgb]; exact below_size HB.out⟩; have HA8 := Aside0.mk (ar_below HA.out hb); have HB8 := Aside0.mk (below_step HB.out hb); have HBX := Aside0.mk hbox; have hcz0 : w9.cell? ⟨gc, 0, none⟩ = some (.int .i64 0) := (blk_cell hbox 0).trans rfl; have hcz1 : w9.cell? ⟨gc, 1, none⟩ = some (.int .i64 0) := (blk_cell hbox 1).trans rfl; have hcz2 : w9.cell? ⟨gc, 2, none⟩ = some (.int .i64 0) := (blk_cell hbox 2).trans rfl; have hfz0 := blk_frozen hbox 0; have hfz1 := blk_frozen hbox 1; have hfz2 := blk_frozen hbox 2; clear hbox hb hgb hgn HA HB))
              have HA2 := ar_far (ar_far (ar_far HA8.out HGN.out 0 (.int .i64 (n : Int))) HGN.out 1 (.int .i64 ka)) HGN.out 2 (.int .i64 kd)
              have HB2 := below_set (j := 2) (v := .int .i64 kd) (below_set (j := 1) (v := .int .i64 ka) (below_set (j := 0) (v := .int .i64 (n : Int)) HB8.out HGB2.out) HGB2.out) HGB2.out
              have HX2 : ((((w9.setCell { block := gc, off := 0 } (Value.int IntKind.i64 ↑n)).setCell { block := gc, off := 1 } (Value.int IntKind.i64 ka)).setCell { block := gc, off := 2 } (Value.int IntKind.i64 kd))).heap[gc]? = some (.cells #[.int .i64 (n : Int), .int .i64 ka, .int .i64 kd] 43 (0, 0)) := blk_put (blk_put (blk_put HBX.out 0 (.int .i64 (n : Int)) rfl) 1 (.int .i64 ka) rfl) 2 (.int .i64 kd) rfl
              generalize hW1 : (((w9.setCell { block := gc, off := 0 } (Value.int IntKind.i64 ↑n)).setCell { block := gc, off := 1 } (Value.int IntKind.i64 ka)).setCell { block := gc, off := 2 } (Value.int IntKind.i64 kd)) = W1 at HA2 HB2 HX2 ⊢
              clear hW1 hx0 hx1 hx2 hcz0 hcz1 hcz2 hfz0 hfz1 hfz2 HA8 HB8 HBX
              have HA := Aside0.mk HA2
              have HB := Aside0.mk HB2
              have HX := Aside0.mk HX2
              clear HA2 HB2 HX2
              have hz0 : W1.cell? ⟨gc, 0, none⟩ = some (.int .i64 (n : Int)) := (blk_cell HX.out 0).trans rfl
              have hz1 : W1.cell? ⟨gc, 1, none⟩ = some (.int .i64 ka) := (blk_cell HX.out 1).trans rfl
              obtain ⟨hq1, hf1'⟩ := ar_cell HA.out ((h + 1) * 30 + n) (by omega)
              rw [← HY1.out] at hq1
              go_region
              rw [ar_min, HY1.out]
              have HA2 := ar_drew (ar_set HA.out ((h + 1) * 30 + n) (min (o2.getD ((h + 1) * 30 + n) 0) ka))
              have HB2 := below_drew1 (below_set (j := (h + 1) * 30 + n) (v := .int .i64 (min (o2.getD ((h + 1) * 30 + n) 0) ka)) HB.out HGB.out)
              have HX2 := blk_drew (blk_far HX.out (p := ⟨g, (h + 1) * 30 + n, none⟩) (Ne.symm HGN.out) (.int .i64 (min (o2.getD ((h + 1) * 30 + n) 0) ka)))
              obtain ⟨o3, ho3⟩ : ∃ q, q = o2.set ((h + 1) * 30 + n) (min (o2.getD ((h + 1) * 30 + n) 0) ka) := ⟨_, rfl⟩
              have HI3 : Aside0 (ar_in o3) := ⟨by rw [ho3]; refine ar_in_set _ _ _ HI.out ?_ ?_ <;> (rw [← HY1.out]; omega)⟩
              have HY3 : Aside0 (y0 = o3.getD (h * 30 + n) 0) := ⟨by rw [HY0.out, ho3, List.getD_eq_getElem?_getD, List.getD_eq_getElem?_getD, List.getElem?_set, if_neg (by omega)]⟩
              rw [← ho3] at HA2
              have HO3 := Aside0.mk ho3
              generalize hW2 : (W1.setCell { block := g, off := (h + 1) * 30 + n } (Value.int IntKind.i64 (min (o2.getD ((h + 1) * 30 + n) 0) ka))).drew = W2 at HA2 HB2 HX2 ⊢
              clear hW2 ho3 hz0 hz1 hq1 hf1' HA HB HX HI
              have HA := Aside0.mk HA2
              have HB := Aside0.mk HB2
              have HX := Aside0.mk HX2
              clear HA2 HB2 HX2; go_wp2
              have hz0 : W2.cell? ⟨gc, 0, none⟩ = some (.int .i64 (n : Int)) := (blk_cell HX.out 0).trans rfl
              have hz2 : W2.cell? ⟨gc, 2, none⟩ = some (.int .i64 kd) := (blk_cell HX.out 2).trans rfl
              obtain ⟨hq0, hf0'⟩ := ar_cell HA.out (h * 30 + n) (by omega)
              rw [← HY3.out] at hq0
              by_cases d1 : y0 < 100001
              · have d1d : decide (y0 < 100001) = true := decide_eq_true d1
                by_cases d2 : kd ≥ y0 + wt
                · have d2d : decide (kd ≥ y0 + wt) = true := decide_eq_true d2
                  have d2e : decide (y0 + wt ≤ kd) = true := decide_eq_true d2
                  go_region
                  go_wp2
                  go_roundg (gkr - 1)
                  case measure => omega
                  case rel => exact ⟨j + 1, o3, true, rfl, by go_num, by omega, by omega, ⟨by rw [HTK2.out]; exact (ar_call_t h wt o2 o3 ⟨(n : Int), ka, kd⟩ n rfl HO3.out).symm⟩, HI3, ⟨ar_drew HA.out⟩, ⟨below_drew1 HB.out⟩⟩
                · have d2d : decide (kd ≥ y0 + wt) = false := decide_eq_false d2
                  have d2e : decide (y0 + wt ≤ kd) = false := decide_eq_false d2
                  go_region
                  go_wp2
                  go_roundg (gkr - 1)
                  case measure => omega
                  case rel => exact ⟨j + 1, o3, true, rfl, by go_num, by omega, by omega, ⟨by rw [HTK2.out]; exact (ar_call_t h wt o2 o3 ⟨(n : Int), ka, kd⟩ n rfl HO3.out).symm⟩, HI3, ⟨ar_drew HA.out⟩, ⟨below_drew1 HB.out⟩⟩
              · have d1d : decide (y0 < 100001) = false := decide_eq_false d1
                go_region
                go_wp2
                go_roundg (gkr - 1)
                case measure => omega
                case rel => exact ⟨j + 1, o3, true, rfl, by go_num, by omega, by omega, ⟨by rw [HTK2.out]; exact (ar_call_t h wt o2 o3 ⟨(n : Int), ka, kd⟩ n rfl HO3.out).symm⟩, HI3, ⟨ar_drew HA.out⟩, ⟨below_drew1 HB.out⟩⟩
             | false =>
              go_wp2_with (first | ((with_reducible refine gate_dst (N := 20) rfl ?_); refine box_event ?hg (N := 20) ?hd (cs := #[.int .i64 0, .int .i64 0, .int .i64 0]) (t := 43) ?hr ?_; (case hd => rfl); (case hg => rfl); (case hr => first | (go_simp; done) | (go_simp; rfl)); intro gc hgb w9 hbox hb; have hgn : g ≠ gc := (by rw [hgb]; exact Nat.ne_of_lt (ar_lt HA.out)); have HGN := Aside0.mk hgn; have HGB2 : Aside0 (w.heap.size ≤ gc) := ⟨by rw [hgb]; exact below_size HB.out⟩; have HA8 := Aside0.mk (ar_below HA.out hb); have HB8 := Aside0.mk (below_step HB.out hb); have HBX := Aside0.mk hbox; have hcz0 : w9.cell? ⟨gc, 0, none⟩ = some (.int .i64 0) := (blk_cell hbox 0).trans rfl; have hcz1 : w9.cell? ⟨gc, 1, none⟩ = some (.int .i64 0) := (blk_cell hbox 1).trans rfl; have hcz2 : w9.cell? ⟨gc, 2, none⟩ = some (.int .i64 0) := (blk_cell hbox 2).trans rfl; have hfz0 := blk_frozen hbox 0; have hfz1 := blk_frozen hbox 1; have hfz2 := blk_frozen hbox 2; clear hbox hb hgb hgn HA HB))
              have HA2 := ar_far (ar_far (ar_far HA8.out HGN.out 0 (.int .i64 (n : Int))) HGN.out 1 (.int .i64 ka)) HGN.out 2 (.int .i64 kd)
              have HB2 := below_set (j := 2) (v := .int .i64 kd) (below_set (j := 1) (v := .int .i64 ka) (below_set (j := 0) (v := .int .i64 (n : Int)) HB8.out HGB2.out) HGB2.out) HGB2.out
              have HX2 : ((((w9.setCell { block := gc, off := 0 } (Value.int IntKind.i64 ↑n)).setCell { block := gc, off := 1 } (Value.int IntKind.i64 ka)).setCell { block := gc, off := 2 } (Value.int IntKind.i64 kd))).heap[gc]? = some (.cells #[.int .i64 (n : Int), .int .i64 ka, .int .i64 kd] 43 (0, 0)) := blk_put (blk_put (blk_put HBX.out 0 (.int .i64 (n : Int)) rfl) 1 (.int .i64 ka) rfl) 2 (.int .i64 kd) rfl
              generalize hW2 : (((w9.setCell { block := gc, off := 0 } (Value.int IntKind.i64 ↑n)).setCell { block := gc, off := 1 } (Value.int IntKind.i64 ka)).setCell { block := gc, off := 2 } (Value.int IntKind.i64 kd)) = W2 at HA2 HB2 HX2 ⊢
              clear hW2 hx0 hx1 hx2 hcz0 hcz1 hcz2 hfz0 hfz1 hfz2 HA8 HB8 HBX
              have HA := Aside0.mk HA2
              have HB := Aside0.mk HB2
              have HX := Aside0.mk HX2
              clear HA2 HB2 HX2; have HI3 := HI; have HY3 := HY0
              have hz0 : W2.cell? ⟨gc, 0, none⟩ = some (.int .i64 (n : Int)) := (blk_cell HX.out 0).trans rfl
              have hz2 : W2.cell? ⟨gc, 2, none⟩ = some (.int .i64 kd) := (blk_cell HX.out 2).trans rfl
              obtain ⟨hq0, hf0'⟩ := ar_cell HA.out (h * 30 + n) (by omega)
              rw [← HY3.out] at hq0
              by_cases d1 : y0 < 100001
              · have d1d : decide (y0 < 100001) = true := decide_eq_true d1
                by_cases d2 : kd ≥ y0 + wt
                · have d2d : decide (kd ≥ y0 + wt) = true := decide_eq_true d2
                  have d2e : decide (y0 + wt ≤ kd) = true := decide_eq_true d2
                  go_region
                  go_wp2
                  go_roundg (gkr - 1)
                  case measure => omega
                  case rel => exact ⟨j + 1, o2, true, rfl, by go_num, by omega, by omega, ⟨by rw [HTK2.out]; exact (ar_call_f h wt o2 ⟨(n : Int), ka, kd⟩ n rfl true (by rw [← HY0.out, d1d, d2e, Bool.true_and])).symm⟩, HI3, ⟨ar_drew HA.out⟩, ⟨below_drew1 HB.out⟩⟩
                · have d2d : decide (kd ≥ y0 + wt) = false := decide_eq_false d2
                  have d2e : decide (y0 + wt ≤ kd) = false := decide_eq_false d2
                  go_region
                  go_wp2
                  go_roundg (gkr - 1)
                  case measure => omega
                  case rel => exact ⟨j + 1, o2, false, rfl, by go_num, by omega, by omega, ⟨by rw [HTK2.out]; exact (ar_call_f h wt o2 ⟨(n : Int), ka, kd⟩ n rfl false (by rw [← HY0.out, d1d, d2e, Bool.true_and])).symm⟩, HI3, ⟨ar_drew HA.out⟩, ⟨below_drew1 HB.out⟩⟩
              · have d1d : decide (y0 < 100001) = false := decide_eq_false d1
                go_region
                go_wp2
                go_roundg (gkr - 1)
                case measure => omega
                case rel => exact ⟨j + 1, o2, false, rfl, by go_num, by omega, by omega, ⟨by rw [HTK2.out]; exact (ar_call_f h wt o2 ⟨(n : Int), ka, kd⟩ n rfl false (by rw [← HY0.out, d1d, Bool.false_and])).symm⟩, HI3, ⟨ar_drew HA.out⟩, ⟨below_drew1 HB.out⟩⟩
           · have cz3 : ¬ (j : Int) < (t.f1.length : Int) := by omega
             have je : j = t.f1.length := by omega
             subst je
             have h9 := HF.out
             rw [List.take_length] at h9
             have HE : Aside0 (o2 = (l0.take (i + 1)).foldl (impl_arrivals.l1 h wt) o) := ⟨by rw [HTK.out]; unfold impl_arrivals.l1; rw [← h9]⟩
             clear h9 HF HTK; go_wp2
             go_roundg (gkp - 1)
             case measure => omega
             case rel => exact ⟨i + 1, o2, by go_num, by omega, by omega, HE, HI, HA, HB⟩
        · have cz2 : ¬ (i : Int) < (l0.length : Int) := by omega
          have ie : i = l0.length := by omega
          subst ie
          have HE : Aside0 (o1 = impl_arrivals.l2 l0 ch (h + 1) o0) := ⟨by rw [impl_arrivals.l2, ← HO.out, ← HWT.out, HT.out, List.take_length]⟩
          clear HT HO; go_wp2
          go_roundg (gko - 1)
          case measure => omega
          case rel => exact ⟨h + 1, ch, o1, rfl, by go_num, by omega, by omega, by rw [if_neg (by omega)], HE, HI, HA, HB⟩
     · have cz : ¬ (h : Int) < (hops : Int) := by omega
       have he : h = hops := by omega
       subst he
       have h9 : o = impl_arrivals.l3 l0 (fn : Int) mi ch h := by rw [HALL.out, ← HO.out]
       have HA2 := HA.out
       rw [h9] at HA2
       clear HO HALL h9; go_wp2; go_ret
       exact ⟨g, cap, rfl, HA2, HGB.out, HB.out⟩
end Go.Proofs.YtdpjoblnjjkbfaaDoor.P

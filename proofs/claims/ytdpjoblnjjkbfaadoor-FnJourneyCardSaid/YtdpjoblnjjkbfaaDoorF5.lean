/- The program's departures: a contract by hand. -/
import Derived.Test.YtdpjoblnjjkbfaaDoorF5b
import Derived.BigRegion
import Derived.Deep.RegionHeld3
import Derived.Deep.RegionLaw
import Derived.Deep.MidRow
namespace Go.Proofs.YtdpjoblnjjkbfaaDoor.P
open Go.RowKit Go.Proofs.YtdpjoblnjjkbfaaDoorW.PrintWords Go.Proofs.YtdpjoblnjjkbfaaDoorW.PrintLast Go.Proofs.YtdpjoblnjjkbfaaDoorW.PrintMore
attribute [local go_sem] max2_int min2_int max_two min_two max_three min_three max_four min_four   -- for this text's walks alone
set_option linter.unusedVariables false
set_option linter.unusedSimpArgs false
def dp_fill (n k : Nat) (o : List Int) : Prop := ∀ j, j < k → o.getD j 0 = -1
theorem dp_fill_step (n k : Nat) (o : List Int) (hl : o.length = n * 30) (h : dp_fill n k o) (hk : k < n * 30) : dp_fill n (k + 1) (o.set k (-1)) := by
 intro j hj
 rw [List.getD_eq_getElem?_getD, List.getElem?_set]
 by_cases e : k = j
 · rw [if_pos e, if_pos (by omega)]; rfl
 · rw [if_neg e, ← List.getD_eq_getElem?_getD]; exact h j (by omega)
theorem dp_fill_end (n : Nat) (o : List Int) (hl : o.length = n * 30) (h : dp_fill n (n * 30) o) : o = List.replicate (n * 30) (-1) := by
 apply List.ext_getElem
 · rw [hl]; simp
 · intro i h1 h2
   have := h i (by omega)
   rw [List.getD_eq_getElem?_getD, List.getElem?_eq_getElem h1] at this
   rw [List.getElem_replicate]
   exact this
theorem ar_range {W : World} {g n cap : Nat} {o : List Int} (h : AR W g n cap o) (i : Nat) (hi : i < n) : W.rangeAt g (i * 30) ((rowv o i).map (Value.int .i64)) := by
 intro j v hj
 have hj30 : j < 30 := by
  have := (List.getElem?_eq_some_iff.1 hj).1
  simpa [rowv_len] using this
 rw [(ar_cell h (i * 30 + j) (by omega)).1, ← hj]
 simp [rowv, hj30]
theorem dp_max (a b : Int) : max a b = if a < b then b else a := by
 rw [Int.max_def]; split <;> split <;> omega
theorem hd_goes_b (A0 : Option Addr) (c0 : Nat) (l0 : List (S46)) (x : S48) (tg by_ ch : Int) (last : Bool) (X : Array Value) (rw : Nat → Int) (w : World) (hr0 : Kd.C k46 w A0 l0.length l0) (hc0 : l0.length ≤ c0) (hXs : X.size = 30) (hXg : ∀ i, i < 30 → X[i]? = some (.int .i64 (rw i))) (hx : lg_ok l0 x) (hch : 0 ≤ ch ∧ ch ≤ 60) (b : Bool) (hb : b = impl_departures.l3 l0 tg by_ ch last rw x) :
 Calls Tryd.prog 38 #[.slice A0 l0.length c0, .agg #[.int .i64 x.f0, .int .i64 x.f1, .int .i64 x.f2], .int .i64 tg, .int .i64 by_, .int .i64 ch, .agg X, .bool last] w fun e w' => e = .returned (.bool b) ∧ Below w.heap.size w w' := by
 subst hb
 exact hd_goes A0 c0 l0 x tg by_ ch last X rw w hr0 hc0 hXs hXg hx hch
/-- What holds of the world while a leg is looked at. -/
def DS (w : World) (C g n cap : Nat) (cs : Array Value) (o : List Int) (A : Option Addr) (L : List S48) (w' : World) : Prop := w'.heap[C]? = some (.cells cs 48 (0, 0)) ∧ AR w' g n cap o ∧ LGS w' A L ∧ Below w.heap.size w w'
theorem ds_drew {w w' : World} {C g n cap : Nat} {cs : Array Value} {o : List Int} {A : Option Addr} {L : List S48} (h : DS w C g n cap cs o A L w') : DS w C g n cap cs o A L w'.drew := ⟨h.1, h.2.1, h.2.2.1, below_drew1 h.2.2.2⟩
theorem ds_step {w w1 w2 : World} {C g n cap : Nat} {cs : Array Value} {o : List Int} {A : Option Addr} {L : List S48} (hb : Below w1.heap.size w1 w2) (h : DS w C g n cap cs o A L w1) : DS w C g n cap cs o A L w2 := ⟨blk_below h.1 hb, ar_below h.2.1 hb, lgs_below h.2.2.1 hb, below_step h.2.2.2 hb⟩
theorem ds_of {P1 P2 P3 P4 : Prop} {w w' : World} {C g n cap : Nat} {cs : Array Value} {o : List Int} {A : Option Addr} {L : List S48} (h : P1 ∧ P2 ∧ P3 ∧ P4 ∧ DS w C g n cap cs o A L w') : DS w C g n cap cs o A L w' := h.2.2.2.2
theorem ds_b {P1 P2 P3 P4 : Prop} {w w' : World} {C g n cap : Nat} {cs : Array Value} {o : List Int} {A : Option Addr} {L : List S48} (h : P1 ∧ P2 ∧ P3 ∧ P4 ∧ DS w C g n cap cs o A L w') : Below w.heap.size w w' := h.2.2.2.2.2.2.2
theorem ds_step2 {P1 P2 P3 P4 : Prop} {w w1 w2 : World} {C g n cap : Nat} {cs : Array Value} {o : List Int} {A : Option Addr} {L : List S48} (hb : Below w1.heap.size w1 w2) (h : P1 ∧ P2 ∧ P3 ∧ P4 ∧ DS w C g n cap cs o A L w1) : DS w C g n cap cs o A L w2 := ds_step hb h.2.2.2.2
theorem ds_all {w w' : World} {C g n cap : Nat} {x0 x1 x2 : Int} {o : List Int} {A : Option Addr} {L : List S48} {m : Nat} {X : List Value} (hX : ∀ W : World, AR W g n cap o → W.rangeAt g m X) (h : DS w C g n cap #[.int .i64 x0, .int .i64 x1, .int .i64 x2] o A L w') :
 w'.cell? ⟨C, 0, none⟩ = some (.int .i64 x0) ∧ w'.cell? ⟨C, 1, none⟩ = some (.int .i64 x1) ∧ w'.cell? ⟨C, 2, none⟩ = some (.int .i64 x2) ∧ w'.rangeAt g m X ∧ DS w C g n cap #[.int .i64 x0, .int .i64 x1, .int .i64 x2] o A L w' :=
 ⟨(blk_cell h.1 0).trans rfl, (blk_cell h.1 1).trans rfl, (blk_cell h.1 2).trans rfl, hX _ h.2.1, h⟩
set_option maxHeartbeats 16000000 in
set_option maxRecDepth 100000 in
theorem hd_departures (A0 : Option Addr) (c0 : Nat) (l0 : List (S46)) (tg by_ ch : Int) (hops : Nat) (w : World) (hr0 : Kd.C k46 w A0 l0.length l0) (hc0 : l0.length ≤ c0) (h5 : hops ≤ 5) (hch : 0 ≤ ch ∧ ch ≤ 60) (hok : tb_ok l0) :
 Calls Tryd.prog 36 #[.slice A0 l0.length c0, .int .i64 tg, .int .i64 by_, .int .i64 ch, .int .i64 (hops : Int)] w fun e w' => ∃ g cap, e = .returned (.slice (some ⟨g, 0, none⟩) (hops + 1) cap) ∧ AR w' g (hops + 1) cap (impl_departures.l7 l0 tg by_ ch hops) ∧ w.heap.size ≤ g ∧ Below w.heap.size w w' := by
 have hu70 := Tryd.underlying70; have hu74 := Tryd.underlying74; have hu48 := Tryd.underlying48; have hu29 := Tryd.underlying29; have mixed : Tryd.prog.follows Departure.mixedOrders = true := by kernel_rfl
 have HR0 := Aside0.mk hr0
 have HOK := Aside0.mk hok
 clear hr0 hok
 go_enter Tryd.func36, Tryd.ntmps36
 go_wp2_with (first | ((with_reducible refine gate_dst (N := 20) rfl ?_); refine Kd.R_make (Kd.raw 30) _ 74 rfl (N := 20) rfl 70 _ _ rfl ((hops : Int) + 1) (by first | rfl | (go_simp; done) | (go_simp; rfl)) (by first | rfl | (go_simp; done) | (go_simp; rfl)) Tryd.underlying70 (.agg zs30.toArray) 240 hd_info74 rfl (by decide) (by omega) zs30 (ok := fun _ => True) (okp := fun _ => True) ?hz (fun _ hk => hk) trivial (by omega) (by omega) (Below.refl _ _) (Nat.le_refl _) ?_; (case hz => exact ⟨rfl, rfl, by decide⟩); intro v3 w3 ho3 hb3 hg3 hn3; rw [show ((hops : Int) + 1).toNat = hops + 1 by omega] at ho3; (obtain ⟨g, cap, e3, hgb, har⟩ := ar_made (by omega) ho3); subst e3))
 have HB := Aside0.mk hb3
 have HGB := Aside0.mk hgb
 have HA := Aside0.mk har
 clear hb3 hgb har ho3 hg3 hn3
 have HL0 : Aside0 (dp_fill (hops + 1) 0 (List.replicate ((hops + 1) * 30) 0)) := ⟨fun j hj => absurd hj (by omega)⟩
 go_loopg [23] (hops + 2) (fun kq v23 w' => ∃ (h : Nat) (o : List Int), v23 = .int .i64 (h : Int) ∧ h ≤ hops + 1 ∧ hops + 2 ≤ h + kq ∧ Aside0 (AR w' g (hops + 1) cap o) ∧ Aside0 (dp_fill (hops + 1) (h * 30) o) ∧ Aside0 (Below w.heap.size w w'))
 case atStart => exact ⟨0, _, rfl, by omega, by omega, HA, ⟨by rw [Nat.zero_mul]; exact HL0.out⟩, HB⟩
 case round =>
  clear HA HL0 HB
  obtain ⟨h, o, rfl, hh, hg, HA, HL, HB⟩ := hrel
  obtain ⟨gko, hgko⟩ : ∃ q, q = gk := ⟨_, rfl⟩
  by_cases c : h < hops + 1
  · have cz : (h : Int) < (hops : Int) + 1 := by omega
    have h0 : (0 : Int) ≤ (h : Int) := by omega
    go_wp2
    go_loopg [26] 31 (fun kq v26 w' => ∃ (x : Nat) (o : List Int), v26 = .int .i64 (x : Int) ∧ x ≤ 30 ∧ 31 ≤ x + kq ∧ Aside0 (AR w' g (hops + 1) cap o) ∧ Aside0 (dp_fill (hops + 1) (h * 30 + x) o) ∧ Aside0 (Below w.heap.size w w'))
    case atStart => exact ⟨0, o, rfl, by omega, by omega, HA, HL, HB⟩
    case round =>
     clear HA HL HB
     obtain ⟨x, o, rfl, hx, hg2, HA, HL, HB⟩ := hrel
     by_cases c2 : x < 30
     · have cz2 : (x : Int) < 30 := by omega
       have x0 : (0 : Int) ≤ (x : Int) := by omega
       obtain ⟨hc1, hc2⟩ := ar_cell HA.out (h * 30 + x) (by omega)
       go_wp2
       go_roundg (gk - 1)
       case measure => omega
       case rel => exact ⟨x + 1, o.set (h * 30 + x) (-1), by go_num, by omega, by omega, ⟨ar_set HA.out _ _⟩, ⟨dp_fill_step (hops + 1) (h * 30 + x) o HA.out.1 HL.out (show h * 30 + x < (hops + 1) * 30 by omega)⟩, ⟨below_set HB.out HGB.out⟩⟩
     · have cz2 : ¬ (x : Int) < 30 := by omega
       have xe : x = 30 := by omega
       subst xe
       go_wp2
       go_roundg (gko - 1)
       case measure => omega
       case rel => exact ⟨h + 1, o, by go_num, by omega, by omega, HA, ⟨by rw [Nat.add_mul, Nat.one_mul]; exact HL.out⟩, HB⟩
  · have cz : ¬ (h : Int) < (hops : Int) + 1 := by omega
    have he : h = hops + 1 := by omega
    subst he
    have hoe := dp_fill_end _ _ HA.out.1 HL.out
    clear c cz hh hg HL hgko gko
    obtain ⟨oS, hoS⟩ : ∃ q, q = List.replicate ((hops + 1) * 30) (-1 : Int) := ⟨_, rfl⟩
    rw [← hoS] at hoe
    subst hoe
    have HALL : Aside0 (impl_departures.l7 l0 tg by_ ch hops = impl_departures.l6 l0 tg by_ ch hops o) := ⟨by rw [hoS]; rfl⟩
    clear hoS; go_wp2
    (try push_cast)
    go_loopg [14] (hops + 1) (fun kq v14 w' => ∃ (h : Nat) (o1 : List Int), v14 = .int .i64 ((h : Int) + 1) ∧ h ≤ hops ∧ hops + 1 ≤ h + kq ∧ Aside0 (o1 = impl_departures.l6 l0 tg by_ ch h o) ∧ Aside0 (AR w' g (hops + 1) cap o1) ∧ Aside0 (Below w.heap.size w w'))
    case atStart => exact ⟨0, o, rfl, by omega, by omega, ⟨rfl⟩, HA, HB⟩
    case round =>
     clear HA HB
     obtain ⟨h, o1, rfl, hh, hg, HO1, HA, HB⟩ := hrel
     obtain ⟨gko, hgko⟩ : ∃ q, q = gk := ⟨_, rfl⟩
     by_cases c : h < hops
     · have cz : (h : Int) + 1 ≤ (hops : Int) := by omega
       have h0 : (0 : Int) ≤ (h : Int) := by omega
       go_wp2
       go_loopg [15] 31 (fun kq v15 w' => ∃ (n : Nat) (o2 : List Int), v15 = .int .i64 (n : Int) ∧ n ≤ 30 ∧ 31 ≤ n + kq ∧ Aside0 (o2 = impl_departures.l5 l0 tg by_ ch h n o1) ∧ Aside0 (AR w' g (hops + 1) cap o2) ∧ Aside0 (Below w.heap.size w w'))
       case atStart => exact ⟨0, o1, rfl, by omega, by omega, ⟨rfl⟩, HA, HB⟩
       case round =>
        clear HA HB
        obtain ⟨n, o2, rfl, hn, hg2, HO2, HA, HB⟩ := hrel
        obtain ⟨gkn, hgkn⟩ : ∃ q, q = gk := ⟨_, rfl⟩
        by_cases c2 : n < 30
        · have cz2 : (n : Int) < 30 := by omega
          have n0 : (0 : Int) ≤ (n : Int) := by omega
          obtain ⟨kL, HKL⟩ := (legs_ev l0 HOK.out (n : Int)).rounds
          obtain ⟨L, hL⟩ : ∃ q, q = impl_departures.l0 l0 (n : Int) := ⟨_, rfl⟩
          rw [← hL] at HKL
          have HL := Aside0.mk hL
          have HKL2 := Aside0.mk HKL
          have hLb : L.length ≤ 3456 := by rw [hL]; exact legs_len HOK.out _
          clear hL HKL
          go_wp2_with (first | (go_at_call 37; refine (impl_legsFrom.calls kL A0 c0 l0 (n : Int) L _ (by first | exact Kd.C_below HR0.out HB.out | exact Kd.C_drewN (Kd.C_below HR0.out HB.out) _) hc0 HKL2.out).mono ?_; rintro e w5 ⟨v5, rfl, hr5, hb5⟩; obtain ⟨AL, cL, rfl, hlg⟩ := lgs_of hr5; have HLG := Aside0.mk hlg; have HB5 := Aside0.mk (below_step HB.out hb5); have HA5 := Aside0.mk (ar_below HA.out hb5); clear HA HB hr5 hb5 hlg))
          go_loopg [49] (L.length + 1) (fun kq v49 w' => ∃ (i : Nat) (o3 : List Int), v49 = .int .i64 (i : Int) ∧ i ≤ L.length ∧ L.length + 1 ≤ i + kq ∧ Aside0 (o3 = (L.take i).foldl (impl_departures.l4 l0 tg by_ ch h n) o2) ∧ Aside0 (LGS w' AL L) ∧ Aside0 (AR w' g (hops + 1) cap o3) ∧ Aside0 (Below w.heap.size w w'))
          case atStart => exact ⟨0, o2, rfl, by omega, by omega, ⟨rfl⟩, HLG, HA5, HB5⟩
          case round =>
           clear HLG HA5 HB5
           obtain ⟨i, o3, rfl, hi, hg3, HO3, HLG, HA, HB⟩ := hrel
           by_cases c3 : i < L.length
           · have cz3 : (i : Int) < (L.length : Int) := by omega
             have i0 : (0 : Int) ≤ (i : Int) := by omega
             obtain ⟨gl, eAL, cells, hcl, hq0, hq1, hq2⟩ := HLG.out i c3
             subst eAL
             obtain ⟨⟨x0, x1, x2⟩, hx⟩ : ∃ q, q = L.getD i z48 := ⟨_, rfl⟩
             rw [← hx] at hq0 hq1 hq2
             have HX := Aside0.mk hx
             have HLK : Aside0 (lg_ok l0 ⟨x0, x1, x2⟩) := ⟨legs_ok HOK.out (node := (n : Int)) (by rw [← HL.out, hx]; exact Pure.getD_mem z48 L i c3)⟩
             have hc0' : wr.cell? ⟨gl, i * 3, none⟩ = some (.int .i64 x0) := by rw [blk_cell hcl]; exact hq0
             have hc1' : wr.cell? ⟨gl, i * 3 + 1, none⟩ = some (.int .i64 x1) := by rw [blk_cell hcl]; exact hq1
             have hc2' : wr.cell? ⟨gl, i * 3 + 2, none⟩ = some (.int .i64 x2) := by rw [blk_cell hcl]; exact hq2
             clear hq0 hq1 hq2 hcl hx cells; go_wp2
             have hN := blk_new wr (Obj.cells #[.int .i64 x0, .int .i64 x1, .int .i64 x2] 48 (0, 0))
             have hba := below_alloc (Below.refl wr.heap.size wr) (Obj.cells #[.int .i64 x0, .int .i64 x1, .int .i64 x2] 48 (0, 0))
             have hlg9 := lgs_below HLG.out hba
             have har9 := ar_below HA.out hba
             have hbb9 := below_alloc HB.out (Obj.cells #[.int .i64 x0, .int .i64 x1, .int .i64 x2] 48 (0, 0))
             have hne9 := Nat.ne_of_gt (ar_lt HA.out)
             clear hba HLG HA HB hc0' hc1' hc2'
             generalize wr.alloc (Obj.cells #[.int .i64 x0, .int .i64 x1, .int .i64 x2] 48 (0, 0)) = w9 at hN hlg9 har9 hbb9 ⊢
             generalize wr.heap.size = C at hN hne9 ⊢
             obtain ⟨X, hX⟩ : ∃ q, q = (rowv o3 h).map (Value.int .i64) := ⟨_, rfl⟩
             have HXL : Aside0 (∀ W : World, AR W g (hops + 1) cap o3 → W.rangeAt g (h * 30) X) := ⟨fun W hW => by rw [hX]; exact ar_range hW h (by omega)⟩
             have HXS : Aside0 (X.toArray.size = 30) := ⟨by rw [hX]; exact rowX_size o3 h⟩
             have hi74 : (Tryd.prog.info? 74).map (·.size) = some X.length := by rw [hX]; exact hd_size74 (rowX o3 h) (rowX_size o3 h)
             have HXG : Aside0 (∀ i, i < 30 → X.toArray[i]? = some (.int .i64 ((fun i => o3.getD (h * 30 + i) 0) i))) := ⟨fun i hi => by rw [hX]; exact rowX_get o3 h i hi⟩
             clear hX
             obtain ⟨rw, hrw⟩ : ∃ q : Nat → Int, q = fun i => o3.getD (h * 30 + i) 0 := ⟨_, rfl⟩
             rw [← hrw] at HXG
             obtain ⟨bl, hbl⟩ : ∃ q, ((h : Int) + 1 == 1) = q := ⟨_, rfl⟩
             have HBL : Aside0 (bl = decide (h = 0)) := ⟨by rw [← hbl, Bool.eq_iff_iff]; simp; omega⟩
             obtain ⟨b, hb⟩ : ∃ q, q = impl_departures.l3 l0 tg by_ ch bl rw ⟨x0, x1, x2⟩ := ⟨_, rfl⟩
             have HBV := Aside0.mk hb
             have HRW := Aside0.mk hrw
             clear hb hrw
             have HDS : DS w C g (hops + 1) cap #[.int .i64 x0, .int .i64 x1, .int .i64 x2] o3 (some ⟨gl, 0, none⟩) L w9 := ⟨hN, har9, hlg9, hbb9⟩
             clear hN hlg9 har9 hbb9
             have hs3 : IntKind.i64.wrap (h : Int) = (h : Int) := by simp only [IntKind.wrap_i64]; omega
             have czh : (h : Int) < (hops : Int) + 1 := by omega
             have czt : ((h : Int)).toNat = h := Int.toNat_natCast h
             go_region_held3 (fun w' => w'.cell? ⟨C, 0, none⟩ = some (.int .i64 x0) ∧ w'.cell? ⟨C, 1, none⟩ = some (.int .i64 x1) ∧ w'.cell? ⟨C, 2, none⟩ = some (.int .i64 x2) ∧ w'.rangeAt g (h * 30) X ∧ DS w C g (hops + 1) cap #[.int .i64 x0, .int .i64 x1, .int .i64 x2] o3 (some ⟨gl, 0, none⟩) L w')
              (first | exact ds_all HXL.out (by assumption) | exact ds_all HXL.out (ds_drew (by assumption)) | exact ds_all HXL.out (ds_step2 (by assumption) (by assumption)))
              (first
               | (go_at_call 38; refine (hd_goes_b A0 c0 l0 ⟨x0, x1, x2⟩ tg by_ ch bl X.toArray rw _ (Kd.C_below HR0.out (ds_b (by assumption))) hc0 HXS.out HXG.out HLK.out hch b HBV.out).mono ?_; rintro e w10 ⟨rfl, hb10⟩))
             have hds : DS w C g (hops + 1) cap #[.int .i64 x0, .int .i64 x1, .int .i64 x2] o3 (some ⟨gl, 0, none⟩) L w10 := ds_of (by assumption)
             have HTK : Aside0 ((L.take (i + 1)).foldl (impl_departures.l4 l0 tg by_ ch h n) o2 = if b = true then o3.set ((h + 1) * 30 + n) (max (o3.getD ((h + 1) * 30 + n) 0) (impl_departures.l1 l0 ⟨x0, x1, x2⟩).f2) else o3) := ⟨by
              have e : L[i] = (⟨x0, x1, x2⟩ : S48) := by rw [HX.out, List.getD_eq_getElem?_getD, List.getElem?_eq_getElem c3]; rfl
              rw [ar_take _ o2 L i c3, ← HO3.out, e]
              show (if impl_departures.l3 l0 tg by_ ch (decide (h = 0)) (fun i => o3.getD (h * 30 + i) 0) ⟨x0, x1, x2⟩ = true then _ else _) = _
              rw [← HBL.out, ← HRW.out, ← HBV.out]⟩
             clear HBV HX HO3 HBL HRW HXG HXS HXL hi74 HDS
             cases b with
             | false =>
              go_wp2
              go_roundg (gk - 1)
              case measure => omega
              case rel => exact ⟨i + 1, o3, by go_num, by omega, by omega, ⟨by rw [HTK.out, if_neg (by decide)]⟩, ⟨hds.2.2.1⟩, ⟨hds.2.1⟩, ⟨hds.2.2.2⟩⟩
             | true =>
              obtain ⟨lv, hlv⟩ : ∃ q, q = (impl_departures.l1 l0 ⟨x0, x1, x2⟩).f2 := ⟨_, rfl⟩
              have HLV : Aside0 (impl_leaves.f l0 x0 x1 x2 = some lv) := ⟨by rw [hlv]; exact lg_leaves HLK.out.1⟩
              have HQ := ar_cell hds.2.1 ((h + 1) * 30 + n) (by omega)
              obtain ⟨y, hy⟩ : ∃ q, q = o3.getD ((h + 1) * 30 + n) 0 := ⟨_, rfl⟩
              rw [← hy] at HQ
              obtain ⟨hq1, hq2⟩ := HQ
              have HY := Aside0.mk hy
              rw [← hlv] at HTK
              clear hy hlv
              have hk0 : w10.cell? ⟨C, 0, none⟩ = some (.int .i64 x0) := (blk_cell hds.1 0).trans rfl
              have hk1 : w10.cell? ⟨C, 1, none⟩ = some (.int .i64 x1) := (blk_cell hds.1 1).trans rfl
              have hk2 : w10.cell? ⟨C, 2, none⟩ = some (.int .i64 x2) := (blk_cell hds.1 2).trans rfl
              have HDS := Aside0.mk hds
              clear hds
              have czh1 : (h : Int) + 1 < (hops : Int) + 1 := by omega
              have czh2 : (0 : Int) ≤ (h : Int) + 1 := by omega
              go_wp2
              go_region_law (first
               | (go_simp; go_at_call 26; refine (impl_leaves.calls A0 c0 l0 x0 x1 x2 lv _ (Kd.C_below HR0.out (below_drew1 HDS.out.2.2.2)) hc0 HLV.out).mono ?_; rintro e w11 ⟨rfl, hb11⟩; have HDS1 := Aside0.mk (ds_step hb11 (ds_drew HDS.out)); have hk01 : w11.cell? ⟨C, 0, none⟩ = some (.int .i64 x0) := (blk_cell HDS1.out.1 0).trans rfl; have hk11 : w11.cell? ⟨C, 1, none⟩ = some (.int .i64 x1) := (blk_cell HDS1.out.1 1).trans rfl; have hk21 : w11.cell? ⟨C, 2, none⟩ = some (.int .i64 x2) := (blk_cell HDS1.out.1 2).trans rfl; have hq11 : w11.cell? ⟨g, (h + 1) * 30 + n, none⟩ = some (.int .i64 y) := (by rw [HY.out]; exact (ar_cell HDS1.out.2.1 ((h + 1) * 30 + n) (by omega)).1); have hq21 : w11.frozen? ⟨g, (h + 1) * 30 + n, none⟩ = false := (ar_cell HDS1.out.2.1 ((h + 1) * 30 + n) (by omega)).2))
              all_goals
               obtain ⟨mx, hmx⟩ : ∃ q, q = (if y < lv then lv else y) := ⟨_, rfl⟩
               rw [← hmx]
               have HTK2 : Aside0 (o3.set ((h + 1) * 30 + n) mx = (L.take (i + 1)).foldl (impl_departures.l4 l0 tg by_ ch h n) o2) := ⟨by
                have e := HTK.out
                rw [← HY.out, dp_max, ← hmx] at e
                rw [e]
                first | rfl | exact (if_pos rfl).symm⟩
               clear hmx
               have HA2 := ar_set HDS1.out.2.1 ((h + 1) * 30 + n) mx
               have HLG2 := lgs_set HDS1.out.2.2.1 HDS1.out.2.1 ((h + 1) * 30 + n) (.int .i64 mx)
               have HB2 := below_set (j := (h + 1) * 30 + n) (v := .int .i64 mx) HDS1.out.2.2.2 HGB.out
               go_wp2
               go_roundg (gk - 1)
               case measure => omega
               case rel => exact ⟨i + 1, _, by go_num, by omega, by omega, HTK2, ⟨HLG2⟩, ⟨HA2⟩, ⟨HB2⟩⟩
           · have cz3 : ¬ (i : Int) < (L.length : Int) := by omega
             have he : i = L.length := by omega
             subst he
             go_wp2
             go_roundg (gkn - 1)
             case measure => omega
             case rel => exact ⟨n + 1, o3, by go_num, by omega, by omega, ⟨by rw [HO3.out, List.take_length, HL.out, HO2.out]; rfl⟩, HA, HB⟩
        · have cz2 : ¬ (n : Int) < 30 := by omega
          have he : n = 30 := by omega
          subst he
          go_wp2
          go_roundg (gko - 1)
          case measure => omega
          case rel => exact ⟨h + 1, o2, by go_num, by omega, by omega, ⟨by rw [HO2.out, HO1.out]; rfl⟩, HA, HB⟩
     · have cz : ¬ (h : Int) + 1 ≤ (hops : Int) := by omega
       have he : h = hops := by omega
       subst he
       go_wp2; go_ret
       exact ⟨g, cap, rfl, by rw [HALL.out, ← HO1.out]; exact HA.out, HGB.out, HB.out⟩
end Go.Proofs.YtdpjoblnjjkbfaaDoor.P

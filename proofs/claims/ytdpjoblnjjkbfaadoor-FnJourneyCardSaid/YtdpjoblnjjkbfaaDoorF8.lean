/- The program's Journey: a contract by hand. -/
import Derived.Test.YtdpjoblnjjkbfaaDoorF5
import Derived.Test.YtdpjoblnjjkbfaaDoorF3
import Derived.Deep.RegionHeld3
import Derived.Test.YtdpjoblnjjkbfaaDoorPx19
namespace Go.Proofs.YtdpjoblnjjkbfaaDoor.P
open Go.RowKit Go.Proofs.YtdpjoblnjjkbfaaDoorW.PrintWords Go.Proofs.YtdpjoblnjjkbfaaDoorW.PrintLast Go.Proofs.YtdpjoblnjjkbfaaDoorW.PrintMore
attribute [local go_sem] max2_int min2_int max_two min_two max_three min_three max_four min_four   -- for this text's walks alone
set_option linter.unusedVariables false
set_option linter.unusedSimpArgs false

theorem js_step {P1 P2 P3 P4 : Prop} {w9 w1 w2 : World} (hb : Below w1.heap.size w1 w2) (h : P1 ∧ P2 ∧ P3 ∧ P4 ∧ Below w9.heap.size w9 w1) : Below w9.heap.size w9 w2 := below_step h.2.2.2.2 hb
theorem js_b {P1 P2 P3 P4 : Prop} {w9 w1 : World} (h : P1 ∧ P2 ∧ P3 ∧ P4 ∧ Below w9.heap.size w9 w1) : Below w9.heap.size w9 w1 := h.2.2.2.2
theorem js_all {w9 w' : World} {C g n cap m : Nat} {x0 x1 x2 : Int} {o : List Int} {X : List Value} (hC : w9.heap[C]? = some (.cells #[.int .i64 x0, .int .i64 x1, .int .i64 x2] 48 (0, 0))) (hX : ∀ W : World, AR W g n cap o → W.rangeAt g m X) (ha : AR w9 g n cap o) (hb : Below w9.heap.size w9 w') :
    w'.cell? ⟨C, 0, none⟩ = some (.int .i64 x0) ∧ w'.cell? ⟨C, 1, none⟩ = some (.int .i64 x1) ∧ w'.cell? ⟨C, 2, none⟩ = some (.int .i64 x2) ∧ w'.rangeAt g m X ∧ Below w9.heap.size w9 w' :=
  ⟨(blk_cell (blk_below hC hb) 0).trans rfl, (blk_cell (blk_below hC hb) 1).trans rfl, (blk_cell (blk_below hC hb) 2).trans rfl, hX _ (ar_below ha hb), hb⟩
theorem wpAnyH_take_d {P : Program} {md : Region.Mode} {ops : Array Oper} {Q : Exit → Act → World → Prop} {S : World → Prop} {i : Nat} {oi : Oper} {v : Value} {fuel : Nat} {listed : Array Bool} {a : Act} {w : World} (d : Option Tmp) (hi : ops[i]? = some oi) (hd : oi.dst = d)
    (hs : Region.noSelect ops = true) (hf : Region.free md ops listed i = true) (hr : (Region.ready md ops listed).contains i = true)
    (hQ : ∀ c a w, Q (.panic c) (a.put oi.dst v) w → Q (.panic c) a w) (hy : YieldsIf P ops S oi v a) (hS : S w)
    (h : wpAnyH P md ops Q S fuel (listed.setIfInBounds i true) (a.put d v) w) : wpAnyH P md ops Q S (fuel + 1) listed a w := by
  subst hd
  exact wpAnyH_take hi hs hf hr hQ hy hS h
theorem ar_grown {W W' : World} {g n cap : Nat} {o : List Int} (h : AR W g n cap o) {base : Nat} {ok : Nat → Prop} {v : Value} {L : List S48} (hr : Kd.R k48 48 W base ok v L) (hg : W.grownBy W' v.ownBlock) : AR W' g n cap o := by
  obtain ⟨h1, h2, cur, hc, hs, hv⟩ := h
  exact ⟨h1, h2, cur, blk_grown (g := g) (o := .cells cur 74 (0, 0)) hc hg (Kd.R_ne hr hc (by decide)), hs, hv⟩
set_option maxHeartbeats 16000000 in
set_option maxRecDepth 100000 in
theorem impl_Journey.calls (k : Nat) (A0 : Option Addr) (c0 : Nat) (l0 : List (S46)) (a1 : Int) (a2 : Int) (a3 : Int) (a4 : Int) (a5 : Int) (r : List S48) (w : World) (hr0 : Kd.C k46 w A0 l0.length l0) (hc0 : l0.length ≤ c0) (h : impl_Journey.f k l0 a1 a2 a3 a4 a5 = some r) :
    Calls Tryd.prog 17 #[.slice A0 l0.length c0, .int .i64 a1, .int .i64 a2, .int .i64 a3, .int .i64 a4, .int .i64 a5] w fun e w' => ∃ v0_ : Value, e = .returned (v0_) ∧ Kd.R k48 48 w' w.heap.size (fun _ => True) v0_ r ∧ Below w.heap.size w w' := by
  have hu70 := Tryd.underlying70; have hu74 := Tryd.underlying74; have hu48 := Tryd.underlying48; have hu29 := Tryd.underlying29; have mixed : Tryd.prog.follows Departure.mixedOrders = true := by kernel_rfl
  have HR0 := Aside0.mk hr0
  have HC0 := Aside0.mk hc0
  clear hr0 hc0
  obtain ⟨t, A6, H⟩ := Option.bind_eq_some_iff.1 h
  clear h
  cases t with
  | false =>
    obtain rfl : ([] : List S48) = r := by simpa using H
    go_enter Tryd.func17, Tryd.ntmps17
    go_wp2_with (go_at_call 34; refine (impl_questionOk.calls k A0 c0 l0 a1 a2 a3 a4 a5 false _ (by first | exact HR0.out | exact Kd.C_drew HR0.out | exact Kd.C_drewN HR0.out _) HC0.out A6).mono ?_; rintro e w1 ⟨rfl, hb1⟩)
    go_ret
    exact ⟨_, rfl, Kd.R_nil _ _ _ _ _, hb1⟩
  | true =>
    simp only [if_true] at H
    obtain ⟨⟨r1, r2⟩, A7, H⟩ := Option.bind_eq_some_iff.1 H
    dsimp only at H
    have HQ := Aside0.mk A6
    have HS7 := Aside0.mk A7
    clear A6 A7
    unfold impl_Journey.l2 at H
    by_cases cneg : r1 < 0
    · have cd : decide (r1 < 0) = true := decide_eq_true cneg
      rw [if_pos cneg] at H
      obtain rfl := Option.some.inj H
      go_enter Tryd.func17, Tryd.ntmps17
      go_wp2_with (first
        | (go_at_call 34; refine (impl_questionOk.calls k A0 c0 l0 a1 a2 a3 a4 a5 true _ (by first | exact HR0.out | exact Kd.C_drew HR0.out | exact Kd.C_drewN HR0.out _) HC0.out HQ.out).mono ?_; rintro e w1 ⟨rfl, hb1⟩; have HB1 := Aside0.mk hb1; clear hb1)
        | (go_at_call 35; refine (hd_soonest_f A0 c0 l0 a1 a2 a3 a4 a5 r1 r2 _ (by first | exact Kd.C_below HR0.out HB1.out | exact Kd.C_drewN (Kd.C_below HR0.out HB1.out) _) HC0.out HS7.out).mono ?_; rintro e w2 ⟨rfl, hb2⟩))
      go_ret
      exact ⟨_, rfl, Kd.R_nil _ _ _ _ _, below_step HB1.out hb2⟩
    · have cd : decide (r1 < 0) = false := decide_eq_false cneg
      rw [if_neg cneg] at H
      split at H
      case isFalse => simp at H
      rename_i hc
      obtain ⟨i1, i2, i3, i4, i5, i6, i7, i8, i9⟩ := hc
      obtain ⟨cnt, hcnt⟩ : ∃ q : Nat, r2 = (q : Int) := ⟨r2.toNat, by omega⟩
      subst hcnt
      rw [Int.toNat_natCast] at H
      obtain ⟨o, ho⟩ : ∃ q, q = impl_departures.l7 l0 a2 r1 a4 cnt := ⟨_, rfl⟩
      rw [← ho] at H
      have HO := Aside0.mk ho
      have HRES := Aside0.mk (Option.some.inj H)
      have hch : 0 ≤ a4 ∧ a4 ≤ 60 := ⟨i6, i7⟩
      have HOK := Aside0.mk (tb_ok_of l0 i1)
      have h5 : cnt ≤ 5 := by omega
      have HAT : Aside0 (0 ≤ a1 ∧ a1 < 30) := ⟨⟨i2, i3⟩⟩
      have HRD : Aside0 (0 ≤ a3 ∧ a3 ≤ 100060) := ⟨⟨i4, by omega⟩⟩
      clear H ho i1 i2 i3 i4 i5 i6 i7 i8 i9 cneg
      go_enter Tryd.func17, Tryd.ntmps17
      go_wp2_with (first
        | (go_at_call 34; refine (impl_questionOk.calls k A0 c0 l0 a1 a2 a3 a4 a5 true _ (by first | exact HR0.out | exact Kd.C_drew HR0.out | exact Kd.C_drewN HR0.out _) HC0.out HQ.out).mono ?_; rintro e w1 ⟨rfl, hb1⟩; have HB1 := Aside0.mk hb1; clear hb1)
        | (go_at_call 35; refine (hd_soonest_f A0 c0 l0 a1 a2 a3 a4 a5 r1 (cnt : Int) _ (by first | exact Kd.C_below HR0.out HB1.out | exact Kd.C_drewN (Kd.C_below HR0.out HB1.out) _) HC0.out HS7.out).mono ?_; rintro e w2 ⟨rfl, hb2⟩; have HB2 := Aside0.mk (below_step HB1.out hb2); clear hb2)
        | (go_at_call 36; refine (hd_departures A0 c0 l0 a2 r1 a4 cnt _ (by first | exact Kd.C_below HR0.out HB2.out | exact Kd.C_drewN (Kd.C_below HR0.out HB2.out) _) HC0.out h5 hch HOK.out).mono ?_; rintro e w3 ⟨g, cap, rfl, har, hgb, hb3⟩; rw [← HO.out] at har; have HA3 := Aside0.mk har; have HB3 := Aside0.mk (below_step HB2.out hb3); clear har hb3)
        | ((with_reducible refine gate_dst (N := 48) rfl ?_); refine Kd.R_lit k48 _ 48 ?hg (N := 48) ?hd (xs := ([] : List (S48))) (inner := []) (ok := fun _ => True) (okp := fun _ => True) ?hr ?hp (fun _ hk => hk) trivial (Below.refl _ _) (Nat.le_refl _) (by simp) ?_; (case hd => rfl); (case hg => rfl); (case hr => first | (go_simp; done) | (go_simp; rfl)); (case hp => exact (Reps.none _ _)); intro v16 w4 ho4 hb4 hg_ hnew_; clear hg_ hnew_; have HR4 := Aside0.mk (Kd.R_lower ho4 (below_size HB3.out)); have HA4 := Aside0.mk (ar_below HA3.out hb4); have HB4 := Aside0.mk (below_step HB3.out hb4); clear hb4 ho4 HA3 HB3))
      clear HAT HRD
      go_loopg [16, 17, 18, 19] (cnt + 1) (fun kq v16 v17 v18 v19 w' => ∃ (h : Nat) (out : List S48) (at_ rd_ : Int), v17 = .int .i64 at_ ∧ v18 = .int .i64 rd_ ∧ v19 = .int .i64 (h : Int) ∧ h ≤ cnt ∧ h + 1 ≤ kq ∧ Aside0 (impl_Journey.l1 l0 a2 r1 a4 o h out at_ rd_ = r ∧ out.length + h ≤ 5) ∧ Aside0 (Kd.R k48 48 w' w.heap.size (fun _ => True) v16 out) ∧ Aside0 (AR w' g (cnt + 1) cap o) ∧ Aside0 (Below w.heap.size w w'))
      case atStart => exact ⟨cnt, [], a1, a3, rfl, rfl, rfl, by omega, by omega, ⟨HRES.out, by simp; omega⟩, HR4, HA4, HB4⟩
      case round =>
        clear HRES HR4 HA4 HB4
        obtain ⟨h, out, at_, rd_, rfl, rfl, rfl, hh, hg, HJ, HR, HA, HB⟩ := hrel
        obtain ⟨gko, hgko⟩ : ∃ q, q = gk := ⟨_, rfl⟩
        cases h with
        | zero =>
          have hr := HJ.out.1
          rw [impl_Journey.l1] at hr
          subst hr
          clear HJ
          go_wp2
          go_ret
          exact ⟨_, rfl, HR.out, HB.out⟩
        | succ h =>
          have cz : (0 : Int) < (h : Int) + 1 := by omega
          have h0 : (0 : Int) ≤ (h : Int) := by omega
          obtain ⟨kL, HKL⟩ := (legs_ev l0 HOK.out at_).rounds
          obtain ⟨L, hL⟩ : ∃ q, q = impl_departures.l0 l0 at_ := ⟨_, rfl⟩
          rw [← hL] at HKL
          have HL := Aside0.mk hL
          have HKL2 := Aside0.mk HKL
          have hLb : L.length ≤ 3456 := by rw [hL]; exact legs_len HOK.out _
          clear hL HKL
          go_wp2_with (first | (go_at_call 37; refine (impl_legsFrom.calls kL A0 c0 l0 at_ L _ (by first | exact Kd.C_below HR0.out HB.out | exact Kd.C_drewN (Kd.C_below HR0.out HB.out) _) HC0.out HKL2.out).mono ?_; rintro e w5 ⟨v5, rfl, hr5, hb5⟩; obtain ⟨AL, cL, rfl, hlg⟩ := lgs_of hr5; have HLG := Aside0.mk hlg; have HB5 := Aside0.mk (below_step HB.out hb5); have HA5 := Aside0.mk (ar_below HA.out hb5); have HR5 := Aside0.mk (Kd.R_below HR.out hb5); clear HA HB HR hr5 hb5 hlg))
          go_loopg [16, 17, 18, 60] (L.length + 1) (fun kq v16 v17 v18 v60 w' => ∃ (i : Nat), v17 = .int .i64 at_ ∧ v18 = .int .i64 rd_ ∧ v60 = .int .i64 (i : Int) ∧ i ≤ L.length ∧ L.length + 1 ≤ i + kq ∧ Aside0 ((L.drop i).find? (impl_Journey.l0 l0 a2 r1 a4 rd_ h o) = L.find? (impl_Journey.l0 l0 a2 r1 a4 rd_ h o)) ∧ Aside0 (LGS w' AL L) ∧ Aside0 (Kd.R k48 48 w' w.heap.size (fun _ => True) v16 out) ∧ Aside0 (AR w' g (cnt + 1) cap o) ∧ Aside0 (Below w.heap.size w w'))
          case atStart => exact ⟨0, rfl, rfl, rfl, by omega, by omega, ⟨by rw [List.drop_zero]⟩, HLG, HR5, HA5, HB5⟩
          case round =>
            clear HLG HR5 HA5 HB5
            obtain ⟨i, rfl, rfl, rfl, hi, hg3, HF, HLG, HR, HA, HB⟩ := hrel
            by_cases c3 : i < L.length
            · have cz3 : (i : Int) < (L.length : Int) := by omega
              have i0 : (0 : Int) ≤ (i : Int) := by omega
              obtain ⟨gl, eAL, cells, hcl, hq0, hq1, hq2⟩ := HLG.out i c3
              subst eAL
              obtain ⟨⟨x0, x1, x2⟩, hx⟩ : ∃ q, q = L.getD i z48 := ⟨_, rfl⟩
              rw [← hx] at hq0 hq1 hq2
              have HX : Aside0 (L.drop i = (⟨x0, x1, x2⟩ : S48) :: L.drop (i + 1)) := ⟨by rw [hx]; exact Pure.drop_getD z48 L i c3⟩
              have HLK : Aside0 (lg_ok l0 ⟨x0, x1, x2⟩) := ⟨legs_ok HOK.out (node := at_) (by rw [← HL.out, hx]; exact Pure.getD_mem z48 L i c3)⟩
              have hc0' : wr.cell? ⟨gl, i * 3, none⟩ = some (.int .i64 x0) := by rw [blk_cell hcl]; exact hq0
              have hc1' : wr.cell? ⟨gl, i * 3 + 1, none⟩ = some (.int .i64 x1) := by rw [blk_cell hcl]; exact hq1
              have hc2' : wr.cell? ⟨gl, i * 3 + 2, none⟩ = some (.int .i64 x2) := by rw [blk_cell hcl]; exact hq2
              clear hq0 hq1 hq2 hcl hx cells
              go_wp2
              have hN := blk_new wr (Obj.cells #[.int .i64 x0, .int .i64 x1, .int .i64 x2] 48 (0, 0))
              have hba := below_alloc (Below.refl wr.heap.size wr) (Obj.cells #[.int .i64 x0, .int .i64 x1, .int .i64 x2] 48 (0, 0))
              have HLG9 := Aside0.mk (lgs_below HLG.out hba)
              have HA9 := Aside0.mk (ar_below HA.out hba)
              have HR9 := Aside0.mk (Kd.R_below HR.out hba)
              have HB9 := Aside0.mk (below_alloc HB.out (Obj.cells #[.int .i64 x0, .int .i64 x1, .int .i64 x2] 48 (0, 0)))
              have HNE9 := Aside0.mk (Kd.R_lt HR.out)
              clear hba HLG HA HB HR hc0' hc1' hc2'
              generalize wr.alloc (Obj.cells #[.int .i64 x0, .int .i64 x1, .int .i64 x2] 48 (0, 0)) = w9 at hN HLG9 HA9 HB9 HR9 ⊢
              generalize wr.heap.size = C at hN HNE9 ⊢
              have BK := Aside0.mk hN
              clear hN
              obtain ⟨X, hX⟩ : ∃ q, q = (rowv o h).map (Value.int .i64) := ⟨_, rfl⟩
              have HXL : Aside0 (∀ W : World, AR W g (cnt + 1) cap o → W.rangeAt g (h * 30) X) := ⟨fun W hW => by rw [hX]; exact ar_range hW h (by omega)⟩
              have HXS : Aside0 (X.toArray.size = 30) := ⟨by rw [hX]; exact rowX_size o h⟩
              have hi74 : (Tryd.prog.info? 74).map (·.size) = some X.length := by rw [hX]; exact hd_size74 (rowX o h) (rowX_size o h)
              have HXG : Aside0 (∀ i, i < 30 → X.toArray[i]? = some (.int .i64 ((fun i => o.getD (h * 30 + i) 0) i))) := ⟨fun i hi => by rw [hX]; exact rowX_get o h i hi⟩
              clear hX
              obtain ⟨rw, hrw⟩ : ∃ q : Nat → Int, q = fun i => o.getD (h * 30 + i) 0 := ⟨_, rfl⟩
              rw [← hrw] at HXG
              obtain ⟨bl, hbl⟩ : ∃ q, ((h : Int) + 1 == 1) = q := ⟨_, rfl⟩
              have HBL : Aside0 (bl = decide (h = 0)) := ⟨by rw [← hbl, Bool.eq_iff_iff]; simp; omega⟩
              obtain ⟨b, hb⟩ : ∃ q, q = impl_departures.l3 l0 a2 r1 a4 bl rw ⟨x0, x1, x2⟩ := ⟨_, rfl⟩
              obtain ⟨lv, hlv⟩ : ∃ q, q = (impl_departures.l1 l0 ⟨x0, x1, x2⟩).f2 := ⟨_, rfl⟩
              have HLV : Aside0 (impl_leaves.f l0 x0 x1 x2 = some lv) := ⟨by rw [hlv]; exact lg_leaves HLK.out.1⟩
              have HP : Aside0 (impl_Journey.l0 l0 a2 r1 a4 rd_ h o ⟨x0, x1, x2⟩ = (decide (lv ≥ rd_) && b)) := ⟨by rw [impl_Journey.l0, hb, hlv, HBL.out, hrw]⟩
              have HBV := Aside0.mk hb
              clear hb hrw hlv HBL
              have hs3 : IntKind.i64.wrap (h : Int) = (h : Int) := by simp only [IntKind.wrap_i64]; omega
              have czh : (h : Int) < (cnt : Int) + 1 := by omega
              have czt : ((h : Int)).toNat = h := Int.toNat_natCast h
              by_cases clv : rd_ ≤ lv
              · have clvd : decide (rd_ ≤ lv) = true := decide_eq_true clv
                have clve : decide (lv ≥ rd_) = true := decide_eq_true clv
                go_region_held3 (fun w' => w'.cell? ⟨C, 0, none⟩ = some (.int .i64 x0) ∧ w'.cell? ⟨C, 1, none⟩ = some (.int .i64 x1) ∧ w'.cell? ⟨C, 2, none⟩ = some (.int .i64 x2) ∧ w'.rangeAt g (h * 30) X ∧ Below w9.heap.size w9 w')
                  (first | exact js_all BK.out HXL.out HA9.out (Below.refl _ _) | exact js_all BK.out HXL.out HA9.out (below_drew1 (Below.refl _ _)) | exact js_all BK.out HXL.out HA9.out (js_step (by assumption) (by assumption)))
                  (first
                    | (go_at_call 26; refine (impl_leaves.calls A0 c0 l0 x0 x1 x2 lv _ (Kd.C_below HR0.out (below_step HB9.out (js_b (by assumption)))) HC0.out HLV.out).mono ?_; rintro e w10 ⟨rfl, hb10⟩)
                    | (go_at_call 38; refine (hd_goes_b A0 c0 l0 ⟨x0, x1, x2⟩ a2 r1 a4 bl X.toArray rw _ (Kd.C_below HR0.out (below_step HB9.out (js_b (by assumption)))) HC0.out HXS.out HXG.out HLK.out hch b HBV.out).mono ?_; rintro e w10 ⟨rfl, hb10⟩))
                have hbw : Below w9.heap.size w9 w10 := js_b (by assumption)
                cases b with
                | false =>
                  have HF2 : Aside0 ((L.drop (i + 1)).find? (impl_Journey.l0 l0 a2 r1 a4 rd_ h o) = L.find? (impl_Journey.l0 l0 a2 r1 a4 rd_ h o)) := ⟨by
                    have e := HF.out
                    rw [HX.out, List.find?_cons, HP.out] at e
                    simpa using e⟩
                  clear HF HX HP HBV
                  go_wp2
                  go_roundg (gk - 1)
                  case measure => omega
                  case rel => exact ⟨i + 1, rfl, rfl, by go_num, by omega, by omega, HF2, ⟨lgs_below HLG9.out hbw⟩, ⟨Kd.R_below HR9.out hbw⟩, ⟨ar_below HA9.out hbw⟩, ⟨below_step HB9.out hbw⟩⟩
                | true =>
                  obtain ⟨en, hen⟩ : ∃ q, q = (impl_departures.l2 l0 ⟨x0, x1, x2⟩).f0 := ⟨_, rfl⟩
                  obtain ⟨ar, har⟩ : ∃ q, q = (impl_departures.l2 l0 ⟨x0, x1, x2⟩).f1 := ⟨_, rfl⟩
                  have HE : Aside0 (impl_ends.f l0 x0 x1 x2 = some en) := ⟨by rw [hen]; exact lg_ends HLK.out.1⟩
                  have HAr : Aside0 (impl_arrives.f l0 x0 x1 x2 = some ar) := ⟨by rw [har]; exact lg_arrives HLK.out.1⟩
                  have HARB : Aside0 (0 ≤ ar ∧ ar ≤ 100000) := ⟨by rw [har]; exact ⟨HLK.out.2.2.2.1, HLK.out.2.2.2.2.1⟩⟩
                  have HJ2 : Aside0 (impl_Journey.l1 l0 a2 r1 a4 o h (out ++ [⟨x0, x1, x2⟩]) en (ar + a4) = r ∧ (out ++ [(⟨x0, x1, x2⟩ : S48)]).length + h ≤ 5) := ⟨by
                    have e := HF.out
                    rw [HX.out, List.find?_cons, HP.out, clve] at e
                    have e2 : L.find? (impl_Journey.l0 l0 a2 r1 a4 rd_ h o) = some ⟨x0, x1, x2⟩ := by rw [← e]; rfl
                    have e3 := HJ.out.1
                    rw [impl_Journey.l1, ← HL.out, e2] at e3
                    refine ⟨by rw [hen, har]; exact e3, ?_⟩
                    have := HJ.out.2
                    rw [List.length_append, List.length_singleton]
                    omega⟩
                  have HLB : Aside0 (out.length ≤ 5) := ⟨by have := HJ.out.2; omega⟩
                  clear HF HX HP HBV HJ hen har HL
                  have hk0 : w10.cell? ⟨C, 0, none⟩ = some (.int .i64 x0) := (blk_cell (blk_below BK.out hbw) 0).trans rfl
                  have hk1 : w10.cell? ⟨C, 1, none⟩ = some (.int .i64 x1) := (blk_cell (blk_below BK.out hbw) 1).trans rfl
                  have hk2 : w10.cell? ⟨C, 2, none⟩ = some (.int .i64 x2) := (blk_cell (blk_below BK.out hbw) 2).trans rfl
                  have HR10 := Aside0.mk (Kd.R_below HR9.out hbw)
                  have HA10 := Aside0.mk (ar_below HA9.out hbw)
                  have HB10 := Aside0.mk (below_step HB9.out hbw)
                  have BK10 := Aside0.mk (blk_below BK.out hbw)
                  clear HR9 HA9 HB9 BK HLG9 hbw
                  go_wp2_with (first
                    | ((with_reducible refine gate_builtin (b := .append) (xs := #[.tmp 84, .tmp 86]) rfl ?_); at_builtin; refine Kd.R_append k48 (w0 := w) w.heap.size rfl (.tmp 84) (.tmp 86) 29 48 (.agg #[(.int .i64 0), (.int .i64 0), (.int .i64 0)]) 24 rfl Tryd.underlying29 info48 rfl (by decide) (by omega) u16 out (⟨x0, x1, x2⟩ : S48) [.int .i64 x0, .int .i64 x1, .int .i64 x2] (fun _ => True) (fun _ => False) rfl rfl ?aP (fun _ hk => hk.elim) ?aF ?aO ?aB ?aS ?aL ?_; (case aP => exact k48_mkM _ _ _ (⟨x0, x1, x2⟩ : S48)); (case aB => exact (by repeat (first | (with_reducible first | exact HB10.out | apply below_alloc | apply pw_below_drewN | apply below_drew1) | exact HB10.out))); (case aF => exact (fun _ _ => trivial)); (case aO => exact (by (with_reducible repeat (first | apply Kd.R_alloc | apply Kd.R_drewN | apply Kd.R_drew)); exact HR10.out)); (case aS => exact (below_size (by repeat (first | (with_reducible first | exact HB10.out | apply below_alloc | apply pw_below_drewN | apply below_drew1) | exact HB10.out)))); (case aL => have := HLB.out; omega); intro v204 w18 ho hb18 hg18 hat;
                       have HA18 := Aside0.mk (ar_grown (by first | exact HA10.out | exact ar_drewN HA10.out _ | exact HA10.out) (by (with_reducible repeat (first | apply Kd.R_alloc | apply Kd.R_drewN | apply Kd.R_drew)); exact HR10.out) hg18); have BK18 := Aside0.mk (blk_grown (g := C) (o := .cells #[.int .i64 x0, .int .i64 x1, .int .i64 x2] 48 (0, 0)) (by (with_reducible repeat (first | refine blk_drewN ?_ _ | refine blk_drew ?_ | refine blk_alloc ?_ _)); exact BK10.out) hg18 (fun e_ => absurd (HNE9.out C e_.symm) (Nat.lt_irrefl _))); have HB18 := Aside0.mk hb18; have HR18 := Aside0.mk ho; clear ho hb18 hg18 hat HA10 HB10 HR10 BK10 hk0 hk1 hk2))
                  have hs5 : IntKind.i64.wrap (ar + a4) = ar + a4 := by have := HARB.out; simp only [IntKind.wrap_i64]; omega
                  go_region_held3 (fun w' => w'.cell? ⟨C, 0, none⟩ = some (.int .i64 x0) ∧ w'.cell? ⟨C, 1, none⟩ = some (.int .i64 x1) ∧ w'.cell? ⟨C, 2, none⟩ = some (.int .i64 x2) ∧ w'.rangeAt g (h * 30) X ∧ Below w18.heap.size w18 w')
                    (first | exact js_all BK18.out HXL.out HA18.out (Below.refl _ _) | exact js_all BK18.out HXL.out HA18.out (below_drew1 (Below.refl _ _)) | exact js_all BK18.out HXL.out HA18.out (js_step (by assumption) (by assumption)))
                    (first
                      | (go_at_call 39; refine (impl_ends.calls A0 c0 l0 x0 x1 x2 en _ (Kd.C_below HR0.out (below_step HB18.out (js_b (by assumption)))) HC0.out HE.out).mono ?_; rintro e w20 ⟨rfl, hb20⟩)
                      | (go_at_call 27; refine (impl_arrives.calls A0 c0 l0 x0 x1 x2 ar _ (Kd.C_below HR0.out (below_step HB18.out (js_b (by assumption)))) HC0.out HAr.out).mono ?_; rintro e w20 ⟨rfl, hb20⟩))
                  have hbw18 : Below w18.heap.size w18 w20 := js_b (by assumption)
                  go_wp2
                  go_roundg (gko - 1)
                  case measure => omega
                  case rel => exact ⟨h, out ++ [⟨x0, x1, x2⟩], en, ar + a4, rfl, rfl, by go_num, by omega, by omega, HJ2, ⟨Kd.R_below HR18.out hbw18⟩, ⟨ar_below HA18.out hbw18⟩, ⟨below_step HB18.out hbw18⟩⟩
              · have clvd : decide (rd_ ≤ lv) = false := decide_eq_false clv
                have clve : decide (lv ≥ rd_) = false := decide_eq_false clv
                have clvn : lv < rd_ := Int.not_le.mp clv
                have HF2 : Aside0 ((L.drop (i + 1)).find? (impl_Journey.l0 l0 a2 r1 a4 rd_ h o) = L.find? (impl_Journey.l0 l0 a2 r1 a4 rd_ h o)) := ⟨by
                  have e := HF.out
                  rw [HX.out, List.find?_cons, HP.out, clve] at e
                  simpa using e⟩
                clear HF HX HP HBV
                have clvf := eq_false clv
                have clvg : (lv ≥ rd_) = False := eq_false clv
                clear clv clvn
                refine wp_region_held_drew (S := (fun w' => w'.cell? ⟨C, 0, none⟩ = some (.int .i64 x0) ∧ w'.cell? ⟨C, 1, none⟩ = some (.int .i64 x1) ∧ w'.cell? ⟨C, 2, none⟩ = some (.int .i64 x2) ∧ w'.rangeAt g (h * 30) X ∧ Below w9.heap.size w9 w')) (by kernel_rfl) (js_all BK.out HXL.out HA9.out (below_drew1 (Below.refl _ _))) (fun hHeld => ?_)
                refine wpAnyH_take_d (i := 0) (v := .slice A0 l0.length c0) (some 64) rfl (by kernel_rfl) (by kernel_rfl) (by kernel_rfl) (by kernel_rfl) (fun _ _ _ h => h) (Or.inl ⟨by rfl, by intro w hSw; (try dsimp only at hSw); first | rfl | go_simp⟩) hHeld ?_
                (try simp only [Act.put, List.setIfInBounds_toArray, List.set_cons_zero, List.set_cons_succ])
                refine wpAnyH_take_d (i := 1) (v := .agg #[.int .i64 x0, .int .i64 x1, .int .i64 x2]) (some 65) rfl (by kernel_rfl) (by kernel_rfl) (by kernel_rfl) (by kernel_rfl) (fun _ _ _ h => h) (Or.inl ⟨by rfl, by intro w hSw; (try dsimp only at hSw); first | rfl | go_simp⟩) hHeld ?_
                (try simp only [Act.put, List.setIfInBounds_toArray, List.set_cons_zero, List.set_cons_succ])
                refine wpAnyH_take_d (i := 3) (v := .int .i64 rd_) (some 67) rfl (by kernel_rfl) (by kernel_rfl) (by kernel_rfl) (by kernel_rfl) (fun _ _ _ h => h) (Or.inl ⟨by rfl, by intro w hSw; (try dsimp only at hSw); first | rfl | go_simp⟩) hHeld ?_
                (try simp only [Act.put, List.setIfInBounds_toArray, List.set_cons_zero, List.set_cons_succ])
                refine wpAnyH_ready (rs := [2]) (by kernel_rfl) (by simp) ?_
                refine AllReadyH.cons rfl (fun K hK => ?_) AllReadyH.nil
                go_simp
                refine (impl_leaves.calls A0 c0 l0 x0 x1 x2 lv _ (Kd.C_below HR0.out (below_step HB9.out (js_b hHeld))) HC0.out HLV.out).mono ?_
                rintro e w10 ⟨rfl, hb10⟩
                refine hK.out _ _ (js_all BK.out HXL.out HA9.out (js_step hb10 hHeld)) (fun hHeld2 => ?_)
                clear hK K
                (try simp only [Act.put, List.setIfInBounds_toArray, List.set_cons_zero, List.set_cons_succ])
                have hHeld3 := hHeld2
                refine wpAnyH_take_d (i := 4) (v := .bool false) (some 68) rfl (by kernel_rfl) (by kernel_rfl) (by kernel_rfl) (by kernel_rfl) (fun _ _ _ h => h) (Or.inl ⟨by rfl, by intro w hSw; (try dsimp only at hSw); go_simp⟩) hHeld2 ?_
                (try simp only [Act.put, List.setIfInBounds_toArray, List.set_cons_zero, List.set_cons_succ])
                refine wpAnyH_take_d (i := 5) (v := .bool false) (some 69) rfl (by kernel_rfl) (by kernel_rfl) (by kernel_rfl) (by kernel_rfl) (fun _ _ _ h => h) (Or.inl ⟨by rfl, by intro w hSw; (try dsimp only at hSw); first | rfl | go_simp⟩) hHeld2 ?_
                (try simp only [Act.put, List.setIfInBounds_toArray, List.set_cons_zero, List.set_cons_succ])
                refine wpAnyH_take_d (i := 6) (v := undef) (some 70) rfl (by kernel_rfl) (by kernel_rfl) (by kernel_rfl) (by kernel_rfl) (fun _ _ _ h => h) (Or.inr ⟨by kernel_rfl, rfl⟩) hHeld2 ?_
                (try simp only [Act.put, List.setIfInBounds_toArray, List.set_cons_zero, List.set_cons_succ])
                refine wpAnyH_take_d (i := 7) (v := undef) (some 71) rfl (by kernel_rfl) (by kernel_rfl) (by kernel_rfl) (by kernel_rfl) (fun _ _ _ h => h) (Or.inr ⟨by kernel_rfl, rfl⟩) hHeld2 ?_
                (try simp only [Act.put, List.setIfInBounds_toArray, List.set_cons_zero, List.set_cons_succ])
                refine wpAnyH_take_d (i := 8) (v := undef) (some 72) rfl (by kernel_rfl) (by kernel_rfl) (by kernel_rfl) (by kernel_rfl) (fun _ _ _ h => h) (Or.inr ⟨by kernel_rfl, rfl⟩) hHeld2 ?_
                (try simp only [Act.put, List.setIfInBounds_toArray, List.set_cons_zero, List.set_cons_succ])
                refine wpAnyH_take_d (i := 9) (v := undef) (some 73) rfl (by kernel_rfl) (by kernel_rfl) (by kernel_rfl) (by kernel_rfl) (fun _ _ _ h => h) (Or.inr ⟨by kernel_rfl, rfl⟩) hHeld2 ?_
                (try simp only [Act.put, List.setIfInBounds_toArray, List.set_cons_zero, List.set_cons_succ])
                refine wpAnyH_take_d (i := 10) (v := undef) (some 74) rfl (by kernel_rfl) (by kernel_rfl) (by kernel_rfl) (by kernel_rfl) (fun _ _ _ h => h) (Or.inr ⟨by kernel_rfl, rfl⟩) hHeld2 ?_
                (try simp only [Act.put, List.setIfInBounds_toArray, List.set_cons_zero, List.set_cons_succ])
                refine wpAnyH_take_d (i := 11) (v := undef) (some 75) rfl (by kernel_rfl) (by kernel_rfl) (by kernel_rfl) (by kernel_rfl) (fun _ _ _ h => h) (Or.inr ⟨by kernel_rfl, rfl⟩) hHeld2 ?_
                (try simp only [Act.put, List.setIfInBounds_toArray, List.set_cons_zero, List.set_cons_succ])
                refine wpAnyH_take_d (i := 12) (v := undef) (some 76) rfl (by kernel_rfl) (by kernel_rfl) (by kernel_rfl) (by kernel_rfl) (fun _ _ _ h => h) (Or.inr ⟨by kernel_rfl, rfl⟩) hHeld2 ?_
                (try simp only [Act.put, List.setIfInBounds_toArray, List.set_cons_zero, List.set_cons_succ])
                refine wpAnyH_take_d (i := 13) (v := undef) (some 77) rfl (by kernel_rfl) (by kernel_rfl) (by kernel_rfl) (by kernel_rfl) (fun _ _ _ h => h) (Or.inr ⟨by kernel_rfl, rfl⟩) hHeld2 ?_
                (try simp only [Act.put, List.setIfInBounds_toArray, List.set_cons_zero, List.set_cons_succ])
                refine wpAnyH_take_d (i := 14) (v := undef) (some 78) rfl (by kernel_rfl) (by kernel_rfl) (by kernel_rfl) (by kernel_rfl) (fun _ _ _ h => h) (Or.inr ⟨by kernel_rfl, rfl⟩) hHeld2 ?_
                (try simp only [Act.put, List.setIfInBounds_toArray, List.set_cons_zero, List.set_cons_succ])
                refine wpAnyH_take_d (i := 15) (v := undef) (some 79) rfl (by kernel_rfl) (by kernel_rfl) (by kernel_rfl) (by kernel_rfl) (fun _ _ _ h => h) (Or.inr ⟨by kernel_rfl, rfl⟩) hHeld2 ?_
                (try simp only [Act.put, List.setIfInBounds_toArray, List.set_cons_zero, List.set_cons_succ])
                refine wpAnyH_take_d (i := 16) (v := undef) (some 80) rfl (by kernel_rfl) (by kernel_rfl) (by kernel_rfl) (by kernel_rfl) (fun _ _ _ h => h) (Or.inr ⟨by kernel_rfl, rfl⟩) hHeld2 ?_
                (try simp only [Act.put, List.setIfInBounds_toArray, List.set_cons_zero, List.set_cons_succ])
                refine wpAnyH_take_d (i := 17) (v := undef) (some 81) rfl (by kernel_rfl) (by kernel_rfl) (by kernel_rfl) (by kernel_rfl) (fun _ _ _ h => h) (Or.inr ⟨by kernel_rfl, rfl⟩) hHeld2 ?_
                (try simp only [Act.put, List.setIfInBounds_toArray, List.set_cons_zero, List.set_cons_succ])
                refine wpAnyH_take_d (i := 18) (v := undef) (some 82) rfl (by kernel_rfl) (by kernel_rfl) (by kernel_rfl) (by kernel_rfl) (fun _ _ _ h => h) (Or.inr ⟨by kernel_rfl, rfl⟩) hHeld2 ?_
                (try simp only [Act.put, List.setIfInBounds_toArray, List.set_cons_zero, List.set_cons_succ])
                refine wpAnyH_take_d (i := 19) (v := .bool false) (some 83) rfl (by kernel_rfl) (by kernel_rfl) (by kernel_rfl) (by kernel_rfl) (fun _ _ _ h => h) (Or.inl ⟨by kernel_rfl, by intro w hSw; clear hSw; go_simp⟩) hHeld2 ?_
                (try simp only [Act.put, List.setIfInBounds_toArray, List.set_cons_zero, List.set_cons_succ])
                refine wpAnyH_done (by kernel_rfl) ?_ _
                clear clvd clve clvf clvg hHeld hb10
                have hbw : Below w9.heap.size w9 w10 := js_b hHeld2
                all_goals
                  go_wp2
                  go_roundg (gk - 1)
                  case measure => omega
                  case rel => exact ⟨i + 1, rfl, rfl, by go_num, by omega, by omega, HF2, ⟨lgs_below HLG9.out hbw⟩, ⟨Kd.R_below HR9.out hbw⟩, ⟨ar_below HA9.out hbw⟩, ⟨below_step HB9.out hbw⟩⟩
            · have cz3 : ¬ (i : Int) < (L.length : Int) := by omega
              have he : i = L.length := by omega
              subst he
              have HJ2 : Aside0 (impl_Journey.l1 l0 a2 r1 a4 o h out at_ rd_ = r ∧ out.length + h ≤ 5) := ⟨by
                have e := HF.out
                rw [List.drop_of_length_le (Nat.le_refl _)] at e
                have e3 := HJ.out.1
                rw [impl_Journey.l1, ← HL.out, ← e] at e3
                exact ⟨e3, by have := HJ.out.2; omega⟩⟩
              clear HF HJ HL
              go_wp2
              go_roundg (gko - 1)
              case measure => omega
              case rel => exact ⟨h, out, at_, rd_, rfl, rfl, by go_num, by omega, by omega, HJ2, HR, HA, HB⟩
end Go.Proofs.YtdpjoblnjjkbfaaDoor.P

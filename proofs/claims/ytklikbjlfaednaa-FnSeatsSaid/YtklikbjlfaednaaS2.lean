/- The law of the seats: the walk, on its true ways alone. -/
import Derived.Test.YtklikbjlfaednaaS1
namespace Go.Proofs.Ytklikbjlfaednaa.P
open Go.RowKit Go.Proofs.YtklikbjlfaednaaW.PrintWords Go.Proofs.YtklikbjlfaednaaW.PrintLast Go.Proofs.YtklikbjlfaednaaW.PrintMore
set_option linter.unusedVariables false
set_option linter.unusedSimpArgs false

set_option maxHeartbeats 8000000 in
set_option maxRecDepth 100000 in
theorem laws_FnSeats.calls (A0 : Option Addr) (c0 : Nat) (l0 : List Int) (w : World) (hr0 : Kd.C (Kd.int .u8) w A0 l0.length l0) (hc0 : l0.length ≤ c0) :
    Calls Try.prog 10 #[.slice A0 l0.length c0] w fun e w' => e = .returned (.bool true) ∧ Below w.heap.size w w' := by
  have hu29 := Try.underlying29
  have hu56 := Try.underlying56
  have HR0 := Aside0.mk hr0
  have HC0 := Aside0.mk hc0
  clear hr0 hc0
  by_cases hbig : l0.length ≤ 1048576
  rotate_left
  · have HBG := Aside0.mk (show laws_big.f l0 = some true by unfold laws_big.f; rw [decide_eq_true (by omega)])
    clear hbig
    go_enter Try.func10, Try.ntmps10
    go_wp2_with (go_at_call 30; (with_reducible refine (laws_big.calls _ _ l0 true _ HR0.out HC0.out HBG.out).mono ?_); rintro e w1 ⟨rfl, ⟨nd, rfl⟩⟩)
    go_ret
    exact ⟨rfl, pw_below_drewN (Below.refl _ _) _⟩
  have HBG := Aside0.mk (show laws_big.f l0 = some false by unfold laws_big.f; rw [decide_eq_false (by omega)])
  obtain ⟨⟨a, b, m0, ss⟩, hEv, hTP, hSS⟩ := Pure.draw_train l0 hbig
  obtain ⟨kd, hkd⟩ := hEv.rounds
  have HD := Aside0.mk hkd
  clear hEv hkd hbig
  have TP0 : Aside0 (Pure.TrainP a b m0) := ⟨hTP⟩
  have HPL := Aside0.mk (Pure.play_f hTP ss hSS)
  have HTL := Aside0.mk (Pure.told_length (a := a) (b := b) ss m0)
  clear hTP
  obtain ⟨fin, hfin⟩ : ∃ x, (impl_PlaySales.l1 a b ss m0).1 = x := ⟨_, rfl⟩
  obtain ⟨tl, htl⟩ : ∃ x, (impl_PlaySales.l1 a b ss m0).2 = x := ⟨_, rfl⟩
  rw [hfin, htl] at HPL
  rw [htl] at HTL
  have HP0 := Aside0.mk (show impl_PlaySales.l1 a b (ss.drop 0) m0 = (fin, tl.drop 0) by rw [List.drop_zero, List.drop_zero]; exact Prod.ext hfin htl)
  clear hfin htl
  have hn200 : ss.length ≤ 200 := hSS
  clear hSS
  have hlen : (tl.length : Int) = (ss.length : Int) := by rw [HTL.out]
  have hlen2 : ((tl.length : Int) != (ss.length : Int)) = false := by rw [hlen]; simp
  have G := Aside0.mk (Hp.start (w := w))
  go_enter Try.func10, Try.ntmps10
  go_upto_region 4 with (first | (go_at_call 30; (with_reducible refine (laws_big.calls _ _ l0 false _ HR0.out HC0.out HBG.out).mono ?_); rintro e w1 ⟨rfl, hd⟩; have n0_ := Aside0.mk (G.out.below hd.below); clear G; have G := n0_; clear n0_ hd) | (go_at_call 31; (with_reducible refine (spec_DrawRightTrain.calls kd _ _ l0 a b m0 ss _ (Kd.C_below HR0.out G.out.hb) HC0.out HD.out).mono ?_); rintro e w2 ⟨v1, v2, rfl, hv1, hv2, hb⟩; obtain ⟨A1, c1, e1, g1⟩ := G.out.call66 hv1 hb; subst e1; obtain ⟨A2, c2, e2⟩ := Kd.R_slice hv2; subst e2; have n0_ := Aside0.mk (g1.add56 (Kd.R_lower hv2 G.out.hb.size)); clear G g1 hv1 hv2 hb; have G := n0_; clear n0_) | ((with_reducible refine gate_dst (N := 3) rfl ?_); refine box_event ?hg (N := 3) ?hd (cs := #[.int .i64 0, .int .i64 0, .slice none 0 0]) (t := 29) ?hr ?_; (case hd => rfl); (case hg => rfl); (case hr => first | (go_simp; done) | (go_simp; rfl)); intro gt hg w3 hbox hb; have n0_ := Aside0.mk (G.out.new hg hbox hb); clear G hg hbox hb; have G := n0_; clear n0_; obtain ⟨hct0, hct1, hct2⟩ := G.out.cells List.mem_cons_self; obtain ⟨hft0, hft1, hft2⟩ := G.out.froz List.mem_cons_self))
  have n0_ := Aside0.mk (G.out.put3 (.int .i64 a) (.int .i64 b) (.slice A1 m0.length c1))
  clear G hct0 hct1 hct2 hft0 hft1 hft2
  generalize ((w3.setCell ⟨gt, 0, none⟩ (.int .i64 a)).setCell ⟨gt, 1, none⟩ (.int .i64 b)).setCell ⟨gt, 2, none⟩ (.slice A1 m0.length c1) = w4 at n0_ ⊢
  have G := n0_
  clear n0_
  obtain ⟨hct0, hct1, hct2⟩ := G.out.cells mm0
  go_upto_region 5 with (first | (go_at_call 37; (with_reducible refine (impl_PlaySales.calls a b A1 c1 m0 A2 c2 ss a b fin tl _ (G.out.c66 mm0) (G.out.l66 mm0) (G.out.c56 mm0) (G.out.l56 mm0) HPL.out).mono ?_); rintro e w5 ⟨v1, v2, rfl, hv1, hv2, hb⟩; obtain ⟨A3, c3, e3, g1⟩ := G.out.call66 hv1 hb; subst e3; obtain ⟨A4, c4, e4⟩ := Kd.R_slice hv2; subst e4; have n0_ := Aside0.mk (g1.add3 (Kd.R_lower hv2 G.out.hb.size)); clear G g1 hv1 hv2 hb hct0 hct1 hct2; have G := n0_; clear n0_) | ((with_reducible refine gate_dst (N := 5) rfl ?_); refine box_event ?hg (N := 5) ?hd (cs := #[.int .i64 0, .int .i64 0, .slice none 0 0]) (t := 29) ?hr ?_; (case hd => rfl); (case hg => rfl); (case hr => first | (go_simp; done) | (go_simp; rfl)); intro gl hg w6 hbox hb; have n0_ := Aside0.mk (G.out.new hg hbox hb); clear G hg hbox hb; have G := n0_; clear n0_; obtain ⟨hcl0, hcl1, hcl2⟩ := G.out.cells mm0; obtain ⟨hfl0, hfl1, hfl2⟩ := G.out.froz mm0))
  have n0_ := Aside0.mk (G.out.put3 (.int .i64 a) (.int .i64 b) (.slice A3 fin.length c3))
  clear G hcl0 hcl1 hcl2 hfl0 hfl1 hfl2
  generalize ((w6.setCell ⟨gl, 0, none⟩ (.int .i64 a)).setCell ⟨gl, 1, none⟩ (.int .i64 b)).setCell ⟨gl, 2, none⟩ (.slice A3 fin.length c3) = w7 at n0_ ⊢
  have G := n0_
  clear n0_
  have NTL := Aside0.mk (show gt ≠ gl by have h := G.out.nd; simp at h; omega)
  obtain ⟨hct0, hct1, hct2⟩ := G.out.cells mm1
  go_upto_region 7 with (go_at_call 15; (with_reducible refine (impl_TrainOk.calls a b A1 c1 m0 true _ (G.out.c66 mm1) (G.out.l66 mm1) (Pure.ok_f TP0.out)).mono ?_); rintro e w8 ⟨rfl, hb⟩; have n0_ := Aside0.mk (G.out.below hb); clear G hct0 hct1 hct2 hb; have G := n0_; clear n0_)
  go_wp2
  go_loopg [7, 8, 9, 10, 11, 12, 13, 14, 15] ss.length (fun gg s7 _ _ _ _ _ _ _ _ wr => ∃ (kk : Nat) (m : List S66) (Am : Option Addr) (cm : Nat), kk ≤ ss.length ∧ ss.length - kk ≤ gg ∧ s7 = .int .i64 kk ∧ Aside0 (Pure.TrainP a b m) ∧ Aside0 (impl_PlaySales.l1 a b (ss.drop kk) m = (fin, tl.drop kk)) ∧ Aside0 (Hp w wr [(gl, #[.int .i64 a, .int .i64 b, .slice A3 fin.length c3], 29), (gt, #[.int .i64 a, .int .i64 b, .slice Am m.length cm], 29)] [(A3, c3, fin), (Am, cm, m)] [(A4, c4, tl)] [(A2, c2, ss)]))
  case atStart => exact ⟨0, m0, A1, c1, Nat.zero_le _, Nat.le_refl _, rfl, TP0, HP0, G⟩
  case round =>
    clear G TP0 HP0
    obtain ⟨kk, m, Am, cm, hkk, hg, rfl, TP, HP, G⟩ := hrel
    by_cases hlt : kk < ss.length
    · have hltz : (kk : Int) < (ss.length : Int) := by omega
      have hnn : (0 : Int) ≤ (kk : Int) := Int.natCast_nonneg kk
      obtain ⟨ad, e, hx0, hx1, hx2, hx3⟩ := at_T56 (G.out.c56 mm0) kk hnn hltz
      cases e
      obtain ⟨hs1, hs2⟩ := Pure.play_step hlt HP.out
      have HP1 := Aside0.mk hs1
      have HT1 := Aside0.mk hs2
      clear hs1 hs2 HP
      rw [Int.toNat_natCast] at hx0 hx1 hx2 hx3
      obtain ⟨s, hs⟩ : ∃ s, rd_T56 ss (kk : Int) = s := ⟨_, rfl⟩
      rw [hs] at hx0 hx1 hx2 hx3 HP1 HT1
      clear hs
      go_upto_region 11 with (fail)
      have n0_ := Aside0.mk (G.out.alloc #[.int .i64 s.f0, .int .i64 s.f1, .int .i64 s.f2, .int .i64 s.f3] 56)
      clear G hx0 hx1 hx2 hx3
      generalize wr.alloc (Obj.cells #[.int .i64 s.f0, .int .i64 s.f1, .int .i64 s.f2, .int .i64 s.f3] 56 (0, 0)) = w10 at n0_ ⊢
      generalize wr.heap.size = gs at n0_ ⊢
      have G := n0_
      clear n0_
      obtain ⟨hct0, hct1, hct2⟩ := G.out.cells mm2
      go_upto_region 12 with ((with_reducible refine gate_dst (N := 9) rfl ?_); refine box_event ?hg (N := 9) ?hd (cs := #[.int .i64 0, .int .i64 0, .slice none 0 0]) (t := 29) ?hr ?_; (case hd => rfl); (case hg => rfl); (case hr => first | (go_simp; done) | (go_simp; rfl)); intro gn hg w11 hbox hb; have n0_ := Aside0.mk (G.out.new hg hbox hb); clear G hg hbox hb; have G := n0_; clear n0_; clear hct0 hct1 hct2; obtain ⟨hct0, hct1, hct2⟩ := G.out.cells mm3; obtain ⟨hcn0, hcn1, hcn2⟩ := G.out.cells mm0; obtain ⟨hfn0, hfn1, hfn2⟩ := G.out.froz mm0)
      have n0_ := Aside0.mk (G.out.put3 (.int .i64 a) (.int .i64 b) (.slice Am m.length cm))
      clear G hct0 hct1 hct2 hcn0 hcn1 hcn2 hfn0 hfn1 hfn2
      generalize ((w11.setCell ⟨gn, 0, none⟩ (.int .i64 a)).setCell ⟨gn, 1, none⟩ (.int .i64 b)).setCell ⟨gn, 2, none⟩ (.slice Am m.length cm) = w12 at n0_ ⊢
      have G := n0_
      clear n0_
      obtain ⟨hs0, hs1, hs2, hs3⟩ := G.out.cells4 mm1
      obtain ⟨hct0, hct1, hct2⟩ := G.out.cells mm3
      by_cases c0 : s.f0 = 0
      · have SV : impl_PlaySales.l0 a b m s = impl_Book.l6 a b m s.f1 s.f2 s.f3 := by unfold impl_PlaySales.l0; rw [if_pos c0]
        have c0b : (s.f0 == 0) = true := by simpa using c0
        have c1b : (s.f0 == 1) = false := by rw [c0]; rfl
        clear c0
        have SD := Pure.sold TP.out s.f1 s.f2 s.f3
        have BF := Pure.sold_f TP.out s.f1 s.f2 s.f3
        rw [SV] at HP1 HT1
        obtain ⟨m1, hm1⟩ : ∃ y, (impl_Book.l6 a b m s.f1 s.f2 s.f3).1 = y := ⟨_, rfl⟩
        obtain ⟨x, hx⟩ : ∃ y, (impl_Book.l6 a b m s.f1 s.f2 s.f3).2 = y := ⟨_, rfl⟩
        rw [hm1] at HP1 SD BF
        rw [hx] at HT1 SD BF
        clear hm1 hx SV
        have HBK := Aside0.mk BF
        have HSD := Aside0.mk SD
        clear BF SD
        have HFR := Aside0.mk (Pure.impl_free a b m s.f2 s.f3)
        have HFL := Aside0.mk (Pure.free_short a b m s.f2 s.f3)
        obtain ⟨fr, hfr⟩ : ∃ y, Pure.freeV a b m s.f2 s.f3 = y := ⟨_, rfl⟩
        rw [hfr] at HFR HFL
        have HFE := Aside0.mk hfr
        clear hfr
        go_upto_region 15 with (go_at_call 18; (with_reducible refine (impl_FreeSeats.calls a b Am cm m s.f2 s.f3 fr _ (G.out.c66 mm1) (G.out.l66 mm1) HFR.out).mono ?_); rintro e w13 ⟨v, rfl, hv, hb⟩; obtain ⟨A5, c5, e5, g1⟩ := G.out.call3 hv hb; subst e5; have n0_ := Aside0.mk g1; clear G g1 hv hb hs0 hs1 hs2 hs3 hct0 hct1 hct2; have G := n0_; clear n0_; obtain ⟨hs0, hs1, hs2, hs3⟩ := G.out.cells4 mm1; obtain ⟨hct0, hct1, hct2⟩ := G.out.cells mm3)
        go_upto_region 16 with (go_at_call 36; (with_reducible refine (impl_Book.calls a b Am cm m s.f1 s.f2 s.f3 a b m1 x _ (G.out.c66 mm1) (G.out.l66 mm1) HBK.out).mono ?_); rintro e w14 ⟨v, rfl, hv, hb⟩; obtain ⟨A6, c6, e6, g1⟩ := G.out.call66 hv hb; subst e6; have n0_ := Aside0.mk g1; clear G g1 hv hb hs0 hs1 hs2 hs3 hct0 hct1 hct2; have G := n0_; clear n0_; obtain ⟨hcn0, hcn1, hcn2⟩ := G.out.cells mm0; obtain ⟨hfn0, hfn1, hfn2⟩ := G.out.froz mm0)
        have n0_ := Aside0.mk (G.out.put3 (.int .i64 a) (.int .i64 b) (.slice A6 m1.length c6))
        clear G hcn0 hcn1 hcn2 hfn0 hfn1 hfn2
        generalize ((w14.setCell ⟨gn, 0, none⟩ (.int .i64 a)).setCell ⟨gn, 1, none⟩ (.int .i64 b)).setCell ⟨gn, 2, none⟩ (.slice A6 m1.length c6) = w15 at n0_ ⊢
        have G := n0_
        clear n0_
        obtain ⟨hs0, hs1, hs2, hs3⟩ := G.out.cells4 mm1
        obtain ⟨hcn0, hcn1, hcn2⟩ := G.out.cells mm0
        by_cases hx : 0 ≤ x
        rotate_left
        · have hxn : x < 0 := by omega
          have hxe : m1 = m := HSD.out.none hxn
          obtain ⟨k1, hk1⟩ := (Pure.same_ev a b m (by have := TP.out.short; omega)).rounds
          have HST := Aside0.mk (show laws_sameTrain.f k1 a b m1 a b m = some true by rw [hxe]; exact hk1)
          clear hk1 hxe hs1 hs2 hs3
          obtain ⟨hct0, hct1, hct2⟩ := G.out.cells mm3
          obtain ⟨adt, et, hxt⟩ := Kd.at_int (G.out.c3 mm1) kk hnn (show (kk : Int) < (tl.length : Int) by omega)
          cases et
          rw [Int.toNat_natCast, HT1.out] at hxt
          go_upto_region 32 with (first | (go_at_call 15; (with_reducible refine (impl_TrainOk.calls a b A6 c6 m1 true _ (G.out.c66 mm0) (G.out.l66 mm0) (Pure.ok_f HSD.out.right)).mono ?_); rintro e w31 ⟨rfl, hb⟩; have n0_ := Aside0.mk (G.out.below hb); clear G hb hcn0 hcn1 hcn2 hct0 hct1 hct2; have G := n0_; clear n0_; obtain ⟨hcn0, hcn1, hcn2⟩ := G.out.cells mm0; obtain ⟨hct0, hct1, hct2⟩ := G.out.cells mm3) | (go_at_call 38; (with_reducible refine (laws_sameTrain.calls k1 a b A6 c6 m1 a b Am cm m true _ (G.out.c66 mm0) (G.out.l66 mm0) (G.out.c66 mm2) (G.out.l66 mm2) HST.out).mono ?_); rintro e w32 ⟨rfl, hb⟩; have n0_ := Aside0.mk (G.out.below hb); clear G hb hcn0 hcn1 hcn2 hct0 hct1 hct2; have G := n0_; clear n0_; obtain ⟨hcn0, hcn1, hcn2⟩ := G.out.cells mm0; obtain ⟨hct0, hct1, hct2⟩ := G.out.cells mm3))
          obtain ⟨hft0, hft1, hft2⟩ := G.out.froz mm3
          go_wp2
          go_roundg (ss.length - (kk + 1))
          case measure => omega
          case rel => exact ⟨kk + 1, m1, A6, c6, by omega, by omega, by go_num, ⟨HSD.out.right⟩, HP1, ⟨G.out.turn NTL.out mm3 mm2 mm1 mm0 mm1 mm0 _ _ _⟩⟩
        obtain ⟨k1, hk1⟩ := (Pure.same_ev a b m (by have := TP.out.short; omega)).rounds
        obtain ⟨k2, hk2⟩ := (Pure.within_ev fr x (by have := HFL.out; omega)).rounds
        have hin := HSD.out.free hx
        rw [HFE.out] at hin
        rw [hin] at hk2
        have HST := Aside0.mk hk1
        have HW1 := Aside0.mk hk2
        clear hk1 hk2 hin
        have HF2 := Aside0.mk (Pure.impl_free a b m1 s.f2 s.f3)
        have HL2 := Pure.free_short a b m1 s.f2 s.f3
        have hout := HSD.out.held hx
        obtain ⟨fr2, hfr2⟩ : ∃ y, Pure.freeV a b m1 s.f2 s.f3 = y := ⟨_, rfl⟩
        rw [hfr2] at HF2 HL2 hout
        obtain ⟨k3, hk3⟩ := (Pure.within_ev fr2 x (by omega)).rounds
        rw [hout] at hk3
        have HW2 := Aside0.mk hk3
        clear hk3 hout HL2 hfr2
        have HUB := Aside0.mk (show impl_Unbook.f a b m1 s.f1 = some (a, b, m, true) by rw [Pure.gone_f HSD.out.right, (HSD.out.gone hx).1, decide_eq_true (HSD.out.gone hx).2])
        go_upto_region 18 with (first | (go_at_call 28; (with_reducible refine (impl_Unbook.calls a b A6 c6 m1 s.f1 a b m true _ (G.out.c66 mm0) (G.out.l66 mm0) HUB.out).mono ?_); rintro e w16 ⟨v, rfl, hv, hb⟩; obtain ⟨A7, c7, e7, g1⟩ := G.out.call66 hv hb; subst e7; have n0_ := Aside0.mk g1; clear G g1 hv hb hs0 hs1 hs2 hs3 hcn0 hcn1 hcn2; have G := n0_; clear n0_) | ((with_reducible refine gate_dst (N := 12) rfl ?_); refine box_event ?hg (N := 12) ?hd (cs := #[.int .i64 0, .int .i64 0, .slice none 0 0]) (t := 29) ?hr ?_; (case hd => rfl); (case hg => rfl); (case hr => first | (go_simp; done) | (go_simp; rfl)); intro gg hg w17 hbox hb; have n0_ := Aside0.mk (G.out.new hg hbox hb); clear G hg hbox hb; have G := n0_; clear n0_; obtain ⟨hcg0, hcg1, hcg2⟩ := G.out.cells mm0; obtain ⟨hfg0, hfg1, hfg2⟩ := G.out.froz mm0))
        have n0_ := Aside0.mk (G.out.put3 (.int .i64 a) (.int .i64 b) (.slice A7 m.length c7))
        clear G hcg0 hcg1 hcg2 hfg0 hfg1 hfg2
        generalize ((w17.setCell ⟨gg, 0, none⟩ (.int .i64 a)).setCell ⟨gg, 1, none⟩ (.int .i64 b)).setCell ⟨gg, 2, none⟩ (.slice A7 m.length c7) = w18 at n0_ ⊢
        have G := n0_
        clear n0_
        obtain ⟨hcg0, hcg1, hcg2⟩ := G.out.cells mm0
        obtain ⟨hcn0, hcn1, hcn2⟩ := G.out.cells mm1
        obtain ⟨hs0, hs1, hs2, hs3⟩ := G.out.cells4 mm2
        obtain ⟨hct0, hct1, hct2⟩ := G.out.cells mm4
        go_upto_region 20 with (first | (go_at_call 38; (with_reducible refine (laws_sameTrain.calls k1 a b A7 c7 m a b Am cm m true _ (G.out.c66 mm0) (G.out.l66 mm0) (G.out.c66 mm3) (G.out.l66 mm3) HST.out).mono ?_); rintro e w19 ⟨rfl, hb⟩; have n0_ := Aside0.mk (G.out.below hb); clear G hb hcg0 hcg1 hcg2 hcn0 hcn1 hcn2 hs0 hs1 hs2 hs3 hct0 hct1 hct2; have G := n0_; clear n0_; obtain ⟨hcg0, hcg1, hcg2⟩ := G.out.cells mm0; obtain ⟨hcn0, hcn1, hcn2⟩ := G.out.cells mm1; obtain ⟨hs0, hs1, hs2, hs3⟩ := G.out.cells4 mm2; obtain ⟨hct0, hct1, hct2⟩ := G.out.cells mm4) | (go_at_call 34; (with_reducible refine (laws_within.calls k2 A5 c5 fr x true _ (G.out.c3 mm0) (G.out.l3 mm0) HW1.out).mono ?_); rintro e w20 ⟨rfl, hd⟩; have hb := hd.below; clear hd; have n0_ := Aside0.mk (G.out.below hb); clear G hb hcg0 hcg1 hcg2 hcn0 hcn1 hcn2 hs0 hs1 hs2 hs3 hct0 hct1 hct2; have G := n0_; clear n0_; obtain ⟨hcg0, hcg1, hcg2⟩ := G.out.cells mm0; obtain ⟨hcn0, hcn1, hcn2⟩ := G.out.cells mm1; obtain ⟨hs0, hs1, hs2, hs3⟩ := G.out.cells4 mm2; obtain ⟨hct0, hct1, hct2⟩ := G.out.cells mm4) | (go_at_call 18; (with_reducible refine (impl_FreeSeats.calls a b A6 c6 m1 s.f2 s.f3 fr2 _ (G.out.c66 mm1) (G.out.l66 mm1) HF2.out).mono ?_); rintro e w21 ⟨v, rfl, hv, hb⟩; obtain ⟨A8, c8, e8, g1⟩ := G.out.call3 hv hb; subst e8; have n0_ := Aside0.mk g1; clear G g1 hv hb hcg0 hcg1 hcg2 hcn0 hcn1 hcn2 hs0 hs1 hs2 hs3 hct0 hct1 hct2; have G := n0_; clear n0_; obtain ⟨hcg0, hcg1, hcg2⟩ := G.out.cells mm0; obtain ⟨hcn0, hcn1, hcn2⟩ := G.out.cells mm1; obtain ⟨hs0, hs1, hs2, hs3⟩ := G.out.cells4 mm2; obtain ⟨hct0, hct1, hct2⟩ := G.out.cells mm4) | (go_at_call 34; (with_reducible refine (laws_within.calls k3 A8 c8 fr2 x false _ (G.out.c3 mm0) (G.out.l3 mm0) HW2.out).mono ?_); rintro e w22 ⟨rfl, hd⟩; have hb := hd.below; clear hd; have n0_ := Aside0.mk (G.out.below hb); clear G hb hcg0 hcg1 hcg2 hcn0 hcn1 hcn2 hs0 hs1 hs2 hs3 hct0 hct1 hct2; have G := n0_; clear n0_; obtain ⟨hcg0, hcg1, hcg2⟩ := G.out.cells mm0; obtain ⟨hcn0, hcn1, hcn2⟩ := G.out.cells mm1; obtain ⟨hs0, hs1, hs2, hs3⟩ := G.out.cells4 mm2; obtain ⟨hct0, hct1, hct2⟩ := G.out.cells mm4))
        have n0_ := Aside0.mk (G.out.sub (is' := [(A5, c5, fr), (A4, c4, tl)]) (fun h => h) (fun _ h => h) (fun _ h => h) (fun y h => List.mem_cons_of_mem _ h) (fun _ h => h))
        clear G hcg0 hcg1 hcg2 hcn0 hcn1 hcn2 hs0 hs1 hs2 hs3 hct0 hct1 hct2 HUB HST HW1 HW2 HF2
        have G := n0_
        clear n0_
        go_wp2
        go_loopg [14] fr.length (fun gg2 s14 wq => ∃ (jj : Nat), jj ≤ fr.length ∧ fr.length - jj ≤ gg2 ∧ s14 = .int .i64 jj ∧ Aside0 (Hp w wq [(gg, #[.int .i64 a, .int .i64 b, .slice A7 m.length c7], 29), (gn, #[.int .i64 a, .int .i64 b, .slice A6 m1.length c6], 29), (gs, #[.int .i64 s.f0, .int .i64 s.f1, .int .i64 s.f2, .int .i64 s.f3], 56), (gl, #[.int .i64 a, .int .i64 b, .slice A3 fin.length c3], 29), (gt, #[.int .i64 a, .int .i64 b, .slice Am m.length cm], 29)] [(A7, c7, m), (A6, c6, m1), (A3, c3, fin), (Am, cm, m)] [(A5, c5, fr), (A4, c4, tl)] [(some ad, c2, ss)]))
        case atStart => exact ⟨0, Nat.zero_le _, Nat.le_refl _, rfl, G⟩
        case round =>
          clear G
          obtain ⟨jj, hjj, hg2, rfl, G⟩ := hrel
          by_cases hlt2 : jj < fr.length
          · have hltz2 : (jj : Int) < (fr.length : Int) := by omega
            have hfl60 : fr.length ≤ 60 := HFL.out
            have hnn2 : (0 : Int) ≤ (jj : Int) := Int.natCast_nonneg jj
            have hmem : rd fr (jj : Int) ∈ fr := by unfold rd; rw [Int.toNat_natCast]; exact Pure.getD_mem 0 fr jj hlt2
            obtain ⟨k4, hk4⟩ := (Pure.impl_holeV a b m (rd fr (jj : Int)) s.f2 s.f3).rounds
            obtain ⟨k5, hk5⟩ := (Pure.impl_holeV a b m x s.f2 s.f3).rounds
            have hle := HSD.out.least hx (rd fr (jj : Int)) (by rw [HFE.out]; exact hmem)
            obtain ⟨y1, hy1⟩ : ∃ y, Pure.holeV a b m (rd fr (jj : Int)) s.f2 s.f3 = y := ⟨_, rfl⟩
            obtain ⟨y2, hy2⟩ : ∃ y, Pure.holeV a b m x s.f2 s.f3 = y := ⟨_, rfl⟩
            rw [hy1] at hk4 hle
            rw [hy2] at hk5 hle
            have HH1 := Aside0.mk hk4
            have HH2 := Aside0.mk hk5
            have hlb : decide (y1 < y2) = false := decide_eq_false (by omega)
            clear hk4 hk5 hy1 hy2 hmem hle
            obtain ⟨v1, hv1⟩ : ∃ y, rd fr (jj : Int) = y := ⟨_, rfl⟩
            rw [hv1] at HH1
            obtain ⟨adf, ef, hxf⟩ := Kd.at_int (G.out.c3 mm0) jj hnn2 hltz2
            cases ef
            rw [Int.toNat_natCast, hv1] at hxf
            clear hv1
            go_upto_region 23 with (fail)
            have n0_ := Aside0.mk G.out.drew
            have hxf2 : wr.drew.cell? (adf.add jj) = some (.int .i64 v1) := hxf
            clear G hxf
            have G := n0_
            clear n0_
            obtain ⟨hct0, hct1, hct2⟩ := G.out.cells mm4
            obtain ⟨_, _, hs2, hs3⟩ := G.out.cells4 mm2
            refine start_ (n := 18) (S := fun w' => w'.cell? ⟨gt, 0, none⟩ = some (.int .i64 a) ∧ w'.cell? ⟨gt, 1, none⟩ = some (.int .i64 b) ∧ w'.cell? ⟨gt, 2, none⟩ = some (.slice Am m.length cm) ∧ w'.cell? ⟨gs, 2, none⟩ = some (.int .i64 s.f2) ∧ w'.cell? ⟨gs, 3, none⟩ = some (.int .i64 s.f3) ∧ w'.cell? (adf.add jj) = some (.int .i64 v1)) (ds := []) #[F,F,F,F,F,F,F,F,F,F,F,F,F,F,F,F,F,F] (by kernel_rfl) rfl rfl ⟨hct0, hct1, hct2, hs2, hs3, hxf2⟩ (fun hHeld => ?_)
            refine with_tabW laws_FnSeats.tab23 laws_FnSeats.bits23 (fun HT_ HW_ => ?_)
            clear hct0 hct1 hct2 hs2 hs3 hxf2
            generalize wr.drew = w23 at G hHeld ⊢
            refine pU 1 (some 110) #[F,T,F,F,F,F,F,F,F,F,F,F,F,F,F,F,F,F] rfl rfl HT_.out ?_
            refine pU 2 (some 111) #[F,T,T,F,F,F,F,F,F,F,F,F,F,F,F,F,F,F] rfl rfl HT_.out ?_
            refine pU 3 (some 112) #[F,T,T,T,F,F,F,F,F,F,F,F,F,F,F,F,F,F] rfl rfl HT_.out ?_
            refine pU 5 (some 114) #[F,T,T,T,F,T,F,F,F,F,F,F,F,F,F,F,F,F] rfl rfl HT_.out ?_
            refine pU 7 (some 116) #[F,T,T,T,F,T,F,T,F,F,F,F,F,F,F,F,F,F] rfl rfl HT_.out ?_
            refine pU 11 (some 120) #[F,T,T,T,F,T,F,T,F,F,F,T,F,F,F,F,F,F] rfl rfl HT_.out ?_
            refine pU 12 (some 121) #[F,T,T,T,F,T,F,T,F,F,F,T,T,F,F,F,F,F] rfl rfl HT_.out ?_
            refine pU 14 (some 123) #[F,T,T,T,F,T,F,T,F,F,F,T,T,F,T,F,F,F] rfl rfl HT_.out ?_
            refine hd_tU6 0 (some 109) #[T,T,T,T,F,T,F,T,F,F,F,T,T,F,T,F,F,F] rfl rfl HT_.out HW_.out hHeld ?_
            refine hd_tU6 4 (some 113) #[T,T,T,T,T,T,F,T,F,F,F,T,T,F,T,F,F,F] rfl rfl HT_.out HW_.out hHeld ?_
            refine hd_tU6 6 (some 115) #[T,T,T,T,T,T,T,T,F,F,F,T,T,F,T,F,F,F] rfl rfl HT_.out HW_.out hHeld ?_
            refine hd_tU6 8 (some 117) #[T,T,T,T,T,T,T,T,T,F,F,T,T,F,T,F,F,F] rfl rfl HT_.out HW_.out hHeld ?_
            refine hd_tU6 10 (some 119) #[T,T,T,T,T,T,T,T,T,F,T,T,T,F,T,F,F,F] rfl rfl HT_.out HW_.out hHeld ?_
            refine hd_tU6 13 (some 122) #[T,T,T,T,T,T,T,T,T,F,T,T,T,T,T,F,F,F] rfl rfl HT_.out HW_.out hHeld ?_
            refine hd_tU6 15 (some 124) #[T,T,T,T,T,T,T,T,T,F,T,T,T,T,T,T,F,F] rfl rfl HT_.out HW_.out hHeld ?_
            refine one_ (i := 9) (N := some 118) #[T,T,T,T,T,T,T,T,T,T,T,T,T,T,T,T,F,F] rfl rfl (one_of HT_.out (by kernel_rfl)) (by decide) (fun K hK => ?_)
            refine goes_ Try.func24 (by kernel_rfl) rfl #[.agg #[.int .i64 a, .int .i64 b, .slice Am m.length cm], .int .i64 v1, .int .i64 s.f2, .int .i64 s.f3] (by rfl) rfl rfl (by (try simp only [List.map_toArray, List.map_cons, List.map_nil]); first | done | rfl | (simp only [List.length_drop, List.length_take]; rfl)) ?_
            with_reducible refine (impl_Hole.calls k4 a b Am cm m v1 s.f2 s.f3 y1 _ (G.out.c66 mm3) (G.out.l66 mm3) HH1.out).mono ?_
            rintro e w24 ⟨rfl, hb⟩
            have HS3_ := (hb.cell (World.block_lt_of_cell? _ _ hHeld.2.2.2.2.2)).trans hHeld.2.2.2.2.2
            refine ⟨_, rfl, ?_⟩
            have n0_ := Aside0.mk (G.out.below hb)
            clear G hb
            have G := n0_
            clear n0_
            refine hK.out _ _ ⟨(G.out.cells mm4).1, (G.out.cells mm4).2.1, (G.out.cells mm4).2.2, (G.out.cells4 mm2).2.2.1, (G.out.cells4 mm2).2.2.2, HS3_⟩ (fun hHeld => ?_)
            clear hK K
            refine norm_ (a' := ?_) ?_ ?_
            rotate_left
            · show Act.put _ (some 118) _ = _
              simp only [Act.put, List.setIfInBounds_toArray, List.set_cons_zero, List.set_cons_succ, i64_w, i32_w]
              rfl
            refine one_ (i := 16) (N := some 125) #[T,T,T,T,T,T,T,T,T,T,T,T,T,T,T,T,T,F] rfl rfl (one_of HT_.out (by kernel_rfl)) (by decide) (fun K hK => ?_)
            refine goes_ Try.func24 (by kernel_rfl) rfl #[.agg #[.int .i64 a, .int .i64 b, .slice Am m.length cm], .int .i64 x, .int .i64 s.f2, .int .i64 s.f3] (by rfl) rfl rfl (by (try simp only [List.map_toArray, List.map_cons, List.map_nil]); first | done | rfl | (simp only [List.length_drop, List.length_take]; rfl)) ?_
            with_reducible refine (impl_Hole.calls k5 a b Am cm m x s.f2 s.f3 y2 _ (G.out.c66 mm3) (G.out.l66 mm3) HH2.out).mono ?_
            rintro e w25 ⟨rfl, hb⟩
            have HS3_ := (hb.cell (World.block_lt_of_cell? _ _ hHeld.2.2.2.2.2)).trans hHeld.2.2.2.2.2
            refine ⟨_, rfl, ?_⟩
            have n0_ := Aside0.mk (G.out.below hb)
            clear G hb
            have G := n0_
            clear n0_
            refine hK.out _ _ ⟨(G.out.cells mm4).1, (G.out.cells mm4).2.1, (G.out.cells mm4).2.2, (G.out.cells4 mm2).2.2.1, (G.out.cells4 mm2).2.2.2, HS3_⟩ (fun hHeld => ?_)
            clear hK K
            refine norm_ (a' := ?_) ?_ ?_
            rotate_left
            · show Act.put _ (some 125) _ = _
              simp only [Act.put, List.setIfInBounds_toArray, List.set_cons_zero, List.set_cons_succ, i64_w, i32_w]
              rfl
            refine pU 17 (some 126) #[T,T,T,T,T,T,T,T,T,T,T,T,T,T,T,T,T,T] rfl rfl HT_.out ?_
            refine done_ (done_of HT_.out (by kernel_rfl)) ?_
            go_wp2
            go_roundg (fr.length - (jj + 1))
            case measure => omega
            case rel => exact ⟨jj + 1, by omega, by omega, by go_num, G⟩
          · have hltz2 : ¬ (jj : Int) < (fr.length : Int) := by omega
            obtain ⟨hcn0, hcn1, hcn2⟩ := G.out.cells mm1
            obtain ⟨hs0, hs1, hs2, hs3⟩ := G.out.cells4 mm2
            obtain ⟨hct0, hct1, hct2⟩ := G.out.cells mm4
            have hxn : ¬ x < 0 := by omega
            obtain ⟨adt, et, hxt⟩ := Kd.at_int (G.out.c3 mm1) kk hnn (show (kk : Int) < (tl.length : Int) by omega)
            cases et
            rw [Int.toNat_natCast, HT1.out] at hxt
            go_upto_region 32 with ((go_at_call 15; (with_reducible refine (impl_TrainOk.calls a b A6 c6 m1 true _ (G.out.c66 mm1) (G.out.l66 mm1) (Pure.ok_f HSD.out.right)).mono ?_); rintro e w31 ⟨rfl, hb⟩; have n0_ := Aside0.mk (G.out.below hb); clear G hb hcn0 hcn1 hcn2 hct0 hct1 hct2; have G := n0_; clear n0_; obtain ⟨hcn0, hcn1, hcn2⟩ := G.out.cells mm1; obtain ⟨hct0, hct1, hct2⟩ := G.out.cells mm4))
            obtain ⟨hft0, hft1, hft2⟩ := G.out.froz mm4
            go_wp2
            go_roundg (ss.length - (kk + 1))
            case measure => omega
            case rel => exact ⟨kk + 1, m1, A6, c6, by omega, by omega, by go_num, ⟨HSD.out.right⟩, HP1, ⟨G.out.turn NTL.out mm4 mm3 mm2 mm1 mm1 mm0 _ _ _⟩⟩
      · have c0b : (s.f0 == 0) = false := by simpa using c0
        by_cases c1 : s.f0 = 1
        · have SV : impl_PlaySales.l0 a b m s = (impl_Unbook.l0 m s.f1, if 0 ≤ impl_Unbook.l1 m s.f1 then 0 else -1) := by unfold impl_PlaySales.l0; rw [if_neg c0, if_pos c1]
          have c1b : (s.f0 == 1) = true := by simpa using c1
          clear c0 c1
          have GD := Pure.gone TP.out s.f1
          have UF := Pure.gone_f TP.out s.f1
          rw [SV] at HP1 HT1
          have HT2 : rd tl (kk : Int) = if decide (0 ≤ impl_Unbook.l1 m s.f1) = true then 0 else -1 := by simpa using HT1.out
          clear HT1
          obtain ⟨m1, hm1⟩ : ∃ y, impl_Unbook.l0 m s.f1 = y := ⟨_, rfl⟩
          obtain ⟨r, hr⟩ : ∃ y, decide (0 ≤ impl_Unbook.l1 m s.f1) = y := ⟨_, rfl⟩
          rw [hm1] at HP1 GD UF
          rw [hr] at HT2 GD UF
          clear hm1 hr SV
          have HGD := Aside0.mk GD
          have HUF := Aside0.mk UF
          clear GD UF
          cases r with
          | true =>
            have HT1 := Aside0.mk (show rd tl (kk : Int) = 0 by rw [HT2]; rfl)
            clear HT2
            go_upto_region 28 with (go_at_call 28; (with_reducible refine (impl_Unbook.calls a b Am cm m s.f1 a b m1 true _ (G.out.c66 mm1) (G.out.l66 mm1) HUF.out).mono ?_); rintro e w26 ⟨v, rfl, hv, hb⟩; obtain ⟨A6, c6, e6, g1⟩ := G.out.call66 hv hb; subst e6; have n0_ := Aside0.mk g1; clear G g1 hv hb hs0 hs1 hs2 hs3 hct0 hct1 hct2; have G := n0_; clear n0_; obtain ⟨hcn0, hcn1, hcn2⟩ := G.out.cells mm0; obtain ⟨hfn0, hfn1, hfn2⟩ := G.out.froz mm0)
            have n0_ := Aside0.mk (G.out.put3 (.int .i64 a) (.int .i64 b) (.slice A6 m1.length c6))
            clear G hcn0 hcn1 hcn2 hfn0 hfn1 hfn2
            generalize ((w26.setCell ⟨gn, 0, none⟩ (.int .i64 a)).setCell ⟨gn, 1, none⟩ (.int .i64 b)).setCell ⟨gn, 2, none⟩ (.slice A6 m1.length c6) = w27 at n0_ ⊢
            have G := n0_
            clear n0_
            obtain ⟨hcn0, hcn1, hcn2⟩ := G.out.cells mm0
            obtain ⟨hct0, hct1, hct2⟩ := G.out.cells mm3
            obtain ⟨adt, et, hxt⟩ := Kd.at_int (G.out.c3 mm0) kk hnn (show (kk : Int) < (tl.length : Int) by omega)
            cases et
            rw [Int.toNat_natCast, HT1.out] at hxt
            go_upto_region 32 with ((go_at_call 15; (with_reducible refine (impl_TrainOk.calls a b A6 c6 m1 true _ (G.out.c66 mm0) (G.out.l66 mm0) (Pure.ok_f HGD.out.right)).mono ?_); rintro e w31 ⟨rfl, hb⟩; have n0_ := Aside0.mk (G.out.below hb); clear G hb hcn0 hcn1 hcn2 hct0 hct1 hct2; have G := n0_; clear n0_; obtain ⟨hcn0, hcn1, hcn2⟩ := G.out.cells mm0; obtain ⟨hct0, hct1, hct2⟩ := G.out.cells mm3))
            obtain ⟨hft0, hft1, hft2⟩ := G.out.froz mm3
            go_wp2
            go_roundg (ss.length - (kk + 1))
            case measure => omega
            case rel => exact ⟨kk + 1, m1, A6, c6, by omega, by omega, by go_num, ⟨HGD.out.right⟩, HP1, ⟨G.out.turn NTL.out mm3 mm2 mm1 mm0 mm0 mm0 _ _ _⟩⟩
          | false =>
            have HT1 := Aside0.mk (show rd tl (kk : Int) = -1 by rw [HT2]; rfl)
            clear HT2
            have hxe : m1 = m := HGD.out.none rfl
            obtain ⟨k1, hk1⟩ := (Pure.same_ev a b m (by have := TP.out.short; omega)).rounds
            have HST := Aside0.mk (show laws_sameTrain.f k1 a b m1 a b m = some true by rw [hxe]; exact hk1)
            clear hk1 hxe
            go_upto_region 28 with (go_at_call 28; (with_reducible refine (impl_Unbook.calls a b Am cm m s.f1 a b m1 false _ (G.out.c66 mm1) (G.out.l66 mm1) HUF.out).mono ?_); rintro e w26 ⟨v, rfl, hv, hb⟩; obtain ⟨A6, c6, e6, g1⟩ := G.out.call66 hv hb; subst e6; have n0_ := Aside0.mk g1; clear G g1 hv hb hs0 hs1 hs2 hs3 hct0 hct1 hct2; have G := n0_; clear n0_; obtain ⟨hcn0, hcn1, hcn2⟩ := G.out.cells mm0; obtain ⟨hfn0, hfn1, hfn2⟩ := G.out.froz mm0)
            have n0_ := Aside0.mk (G.out.put3 (.int .i64 a) (.int .i64 b) (.slice A6 m1.length c6))
            clear G hcn0 hcn1 hcn2 hfn0 hfn1 hfn2
            generalize ((w26.setCell ⟨gn, 0, none⟩ (.int .i64 a)).setCell ⟨gn, 1, none⟩ (.int .i64 b)).setCell ⟨gn, 2, none⟩ (.slice A6 m1.length c6) = w27 at n0_ ⊢
            have G := n0_
            clear n0_
            obtain ⟨hcn0, hcn1, hcn2⟩ := G.out.cells mm0
            obtain ⟨hct0, hct1, hct2⟩ := G.out.cells mm3
            obtain ⟨adt, et, hxt⟩ := Kd.at_int (G.out.c3 mm0) kk hnn (show (kk : Int) < (tl.length : Int) by omega)
            cases et
            rw [Int.toNat_natCast, HT1.out] at hxt
            go_upto_region 32 with (first | (go_at_call 15; (with_reducible refine (impl_TrainOk.calls a b A6 c6 m1 true _ (G.out.c66 mm0) (G.out.l66 mm0) (Pure.ok_f HGD.out.right)).mono ?_); rintro e w31 ⟨rfl, hb⟩; have n0_ := Aside0.mk (G.out.below hb); clear G hb hcn0 hcn1 hcn2 hct0 hct1 hct2; have G := n0_; clear n0_; obtain ⟨hcn0, hcn1, hcn2⟩ := G.out.cells mm0; obtain ⟨hct0, hct1, hct2⟩ := G.out.cells mm3) | (go_at_call 38; (with_reducible refine (laws_sameTrain.calls k1 a b A6 c6 m1 a b Am cm m true _ (G.out.c66 mm0) (G.out.l66 mm0) (G.out.c66 mm2) (G.out.l66 mm2) HST.out).mono ?_); rintro e w32 ⟨rfl, hb⟩; have n0_ := Aside0.mk (G.out.below hb); clear G hb hcn0 hcn1 hcn2 hct0 hct1 hct2; have G := n0_; clear n0_; obtain ⟨hcn0, hcn1, hcn2⟩ := G.out.cells mm0; obtain ⟨hct0, hct1, hct2⟩ := G.out.cells mm3))
            obtain ⟨hft0, hft1, hft2⟩ := G.out.froz mm3
            go_wp2
            go_roundg (ss.length - (kk + 1))
            case measure => omega
            case rel => exact ⟨kk + 1, m1, A6, c6, by omega, by omega, by go_num, ⟨HGD.out.right⟩, HP1, ⟨G.out.turn NTL.out mm3 mm2 mm1 mm0 mm0 mm0 _ _ _⟩⟩
        · have SV : impl_PlaySales.l0 a b m s = (m, -1) := by unfold impl_PlaySales.l0; rw [if_neg c0, if_neg c1]
          have c1b : (s.f0 == 1) = false := by simpa using c1
          clear c0 c1
          rw [SV] at HP1 HT1
          obtain ⟨k1, hk1⟩ := (Pure.same_ev a b m (by have := TP.out.short; omega)).rounds
          have HST := Aside0.mk hk1
          clear hk1
          obtain ⟨hcn0, hcn1, hcn2⟩ := G.out.cells mm0
          obtain ⟨adt, et, hxt⟩ := Kd.at_int (G.out.c3 mm0) kk hnn (show (kk : Int) < (tl.length : Int) by omega)
          cases et
          rw [Int.toNat_natCast, HT1.out] at hxt
          go_upto_region 32 with (first | (go_at_call 15; (with_reducible refine (impl_TrainOk.calls a b Am cm m true _ (G.out.c66 mm1) (G.out.l66 mm1) (Pure.ok_f TP.out)).mono ?_); rintro e w31 ⟨rfl, hb⟩; have n0_ := Aside0.mk (G.out.below hb); clear G hb hcn0 hcn1 hcn2 hct0 hct1 hct2; have G := n0_; clear n0_; obtain ⟨hcn0, hcn1, hcn2⟩ := G.out.cells mm0; obtain ⟨hct0, hct1, hct2⟩ := G.out.cells mm3) | (go_at_call 38; (with_reducible refine (laws_sameTrain.calls k1 a b Am cm m a b Am cm m true _ (G.out.c66 mm1) (G.out.l66 mm1) (G.out.c66 mm1) (G.out.l66 mm1) HST.out).mono ?_); rintro e w32 ⟨rfl, hb⟩; have n0_ := Aside0.mk (G.out.below hb); clear G hb hcn0 hcn1 hcn2 hct0 hct1 hct2; have G := n0_; clear n0_; obtain ⟨hcn0, hcn1, hcn2⟩ := G.out.cells mm0; obtain ⟨hct0, hct1, hct2⟩ := G.out.cells mm3))
          obtain ⟨hft0, hft1, hft2⟩ := G.out.froz mm3
          go_wp2
          go_roundg (ss.length - (kk + 1))
          case measure => omega
          case rel => exact ⟨kk + 1, m, Am, cm, by omega, by omega, by go_num, ⟨TP.out⟩, HP1, ⟨G.out.turn NTL.out mm3 mm2 mm0 mm1 mm0 mm0 _ _ _⟩⟩
    · have hltz : ¬ (kk : Int) < (ss.length : Int) := by omega
      have hkn : kk = ss.length := by omega
      have hme : m = fin := by
        have h := HP.out
        rw [hkn, List.drop_length] at h
        exact congrArg Prod.fst h
      obtain ⟨k1, hk1⟩ := (Pure.same_ev a b m (by have := TP.out.short; omega)).rounds
      have HST := Aside0.mk (show laws_sameTrain.f k1 a b m a b fin = some true by rw [← hme]; exact hk1)
      clear hk1 hme hkn HP
      obtain ⟨hct0, hct1, hct2⟩ := G.out.cells mm1
      obtain ⟨hcl0, hcl1, hcl2⟩ := G.out.cells mm0
      go_wp2_with (go_at_call 38; (with_reducible refine (laws_sameTrain.calls k1 a b Am cm m a b A3 c3 fin true _ (G.out.c66 mm1) (G.out.l66 mm1) (G.out.c66 mm0) (G.out.l66 mm0) HST.out).mono ?_); rintro e w33 ⟨rfl, hb⟩; have n0_ := Aside0.mk (G.out.below hb); clear G hb hct0 hct1 hct2 hcl0 hcl1 hcl2; have G := n0_; clear n0_)
      go_ret
      exact ⟨rfl, G.out.hb⟩
theorem laws_FnSeats.walk (a0 : Option Addr) (len0 cap0 : Nat) (z0 : List Int) (w : World) (w0 : (a0 = none ∧ len0 = 0 ∧ cap0 = 0 ∧ z0 = []) ∨ ∃ x, a0 = some x ∧ len0 ≤ cap0 ∧ cap0 ≤ maxLen ∧ z0.length = cap0 ∧ (∀ i, i < z0.length → w.cell? (x.add i) = some (.int .u8 (z0.getD i 0))) ∧ ∀ n ∈ z0, (Lit.int .u8 n).wf = true) (y0 : len0 * 1 ≤ 140737488351232) :
    Calls Try.prog 10 #[.slice a0 len0 cap0] w fun e w' => e = .returned (.bool true) ∧ Below w.heap.size w w' := by
  obtain ⟨l0, rfl, hr0, hm0, hw0, hc0⟩ := ReadsInt.ofRowC w0
  exact laws_FnSeats.calls _ _ l0 w (Kd.C_of_reads (d := (0 : Int)) (h1 := fun _ => rfl) hr0) hc0
end Go.Proofs.Ytklikbjlfaednaa.P

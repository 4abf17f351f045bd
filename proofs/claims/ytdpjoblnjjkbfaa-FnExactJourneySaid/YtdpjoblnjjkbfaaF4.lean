/- markTripS: a contract by hand: it stores into the rows of trips alone. -/
import Derived.Test.YtdpjoblnjjkbfaaPx8
import Derived.Test.YtdpjoblnjjkbfaaPx9
namespace Go.Proofs.Ytdpjoblnjjkbfaa.P
open Go.RowKit Go.Proofs.YtdpjoblnjjkbfaaW.PrintWords Go.Proofs.YtdpjoblnjjkbfaaW.PrintLast Go.Proofs.YtdpjoblnjjkbfaaW.PrintMore
attribute [local go_sem] max2_int min2_int max_two min_two max_three min_three max_four min_four   -- for this text's walks alone
set_option linter.unusedVariables false
set_option linter.unusedSimpArgs false

theorem getD_set_T51 (y : List S51) (i : Nat) (x : S51) (h : i < y.length) : (y.set i x).getD i z51 = x := by simp [List.getD_eq_getElem?_getD, h]
/-- The blocks of trips and of calls. -/
def TripB (W : World) (k : Nat) : Prop := ∃ q, (q = 51 ∨ q = 67) ∧ ∃ cells, W.heap[k]? = some (.cells cells q (0, 0))
theorem R_untrip {α : Type} {d : Kd α} {e base : Nat} {ok : Nat → Prop} {W W2 : World} {v : Value} {xs : List α} (h : d.R e W base ok v xs) (hk : Kept W W2 (TripB W)) (hE : ∀ q, q ∈ e :: d.E → q ≠ 51 ∧ q ≠ 67) : d.R e W2 base ok v xs := by
  refine Kd.R_mono (Kd.R_kept (Kd.R_bound h) hk (fun k hk' ht => ?_)) (fun _ hk => hk.1)
  obtain ⟨_, _, _, q, hq, cells, hc⟩ := hk'
  obtain ⟨q', hq', cells', hc'⟩ := ht
  rw [hc] at hc'
  injection hc' with hc'
  injection hc' with _ h2 _
  have := hE q hq
  rcases hq' with rfl | rfl
  · exact this.1 h2
  · exact this.2 h2
set_option maxHeartbeats 8000000 in
set_option maxRecDepth 100000 in
theorem laws_markTripS.calls (k : Nat) (u : Value) (l0 : List S51) (a1 r : Int) (w0 w : World) (ok : Nat → Prop) (hB : Below w0.heap.size w0 w) (ho0 : Kd.S k51 51 w w0.heap.size ok u l0) (h : laws_markTripS.f k l0 a1 = some r) :
    Calls Try.prog 22 #[u, .int .i64 a1] w fun e w' => e = .returned (.int .i64 r) ∧ Below w0.heap.size w0 w' ∧ Kept w w' (TripB w) := by
  have HO0 := Aside0.mk (show Kd.S k51 51 w w0.heap.size (TripB w) u l0 from Kd.S_mono (Kd.S_bound ho0) (fun k_ hk => by
    obtain ⟨_, _, _, q, hq, hc⟩ := hk
    refine ⟨q, ?_, hc⟩
    rcases List.mem_cons.1 hq with e | hq
    · exact .inl e
    · exact .inr (List.mem_singleton.1 (show q ∈ [67] from hq))))
  have HK := Aside0.mk (Kept.refl w (TripB w))
  have HB := Aside0.mk hB
  clear hB
  have H' := Aside0.mk (show laws_markTripS.l0 k l0 a1 0 = some r from h)
  clear h
  go_enter Try.func22, Try.ntmps22
  go_wp2
  go_loopg [1, 5] k (fun kq v1 v5 w' => ∃ (y : List S51) (x1_1 : Int) (x5_1 : Int), v1 = .int .i64 x1_1 ∧ v5 = .int .i64 x5_1 ∧ Aside0 (laws_markTripS.l0 kq y x1_1 x5_1 = some r) ∧ Aside0 (kq ≤ k) ∧ Aside0 (Kd.S k51 51 w' w0.heap.size (TripB w) u y) ∧ Aside0 (Kept w w' (TripB w)) ∧ Aside0 (Below w0.heap.size w0 w'))
  case atStart => exact ⟨l0, a1, 0, rfl, rfl, H', ⟨Nat.le_refl _⟩, HO0, HK, HB⟩
  case round =>
    clear H'
    try clear p2
    obtain ⟨y, x1_1, x5_1, rfl, rfl, HA, HK1, HO_0, HK, HB⟩ := hrel
    cases gk with
    | zero => exact absurd HA.out (by simp [laws_markTripS.l0])
    | succ k1 =>
      have H := HA.out
      clear HA
      obtain ⟨E5, hE5⟩ : ∃ e : S51, e = y.getD x5_1.toNat z51 := ⟨_, rfl⟩
      have NE5 := Aside0.mk hE5
      clear hE5
      simp only [laws_markTripS.l0] at H
      obtain ⟨Ao6, co6, eo6⟩ := Kd.S_slice HO_0.out
      subst eo6
      by_cases c3 : x5_1 < (y.length : Int)
      · by_cases hy0 : 0 ≤ x5_1
        case neg => rw [if_pos c3, if_neg hy0] at H; exact absurd H (by simp)
        rw [if_pos c3, if_pos hy0] at H
        replace H := Option.bind_eq_some_iff.mp H
        obtain ⟨t, At, H⟩ := H
        replace H := Option.bind_eq_some_iff.mp H
        obtain ⟨⟨n2, cs2⟩, Ac, H⟩ := H
        have HAt := Aside0.mk At
        have HAc := Aside0.mk Ac
        have H' := Aside0.mk H
        clear H At Ac
        have q5 : x5_1 < (y.length : Int) := c3
        clear c3
        have c3b0 : decide (x5_1 < (y.length : Int)) = true := decide_eq_true q5
        have p5b0 : decide (0 ≤ x5_1) = true := decide_eq_true hy0
        obtain ⟨go5, co5, eo5, gb5, gl5, cl5, HG5⟩ := Kd.S_form HO_0.out (by omega)
        (first | cases eo5 | (injection eo5 with ea_ en_ ec_; (first | subst ea_ | (injection ea_ with ea_; subst ea_)); subst ec_; clear en_))
        have GB5 := Aside0.mk gb5
        clear gb5 gl5 HG5
        have HTg := Aside0.mk (HO_0.out |> fun hh => (Kd.S_R hh).1 go5 rfl)
        go_wp2_with (first
          | ((with_reducible refine gate_callee (f := 45) rfl ?_); refine goesL_ (some 15) rfl rfl Try.func45 (by kernel_rfl) rfl #[.int .i64 x1_1] rfl (by (try simp only [List.map_toArray, List.map_cons, List.map_nil]); first | done | rfl | (simp only [List.length_drop, List.length_take]; rfl)) ?_; (with_reducible refine (laws_markText.calls k1 x1_1 t _ HAt.out).mono ?_); rintro e w11 ⟨rfl, hb⟩; refine ⟨_, rfl, ?_⟩;
             have n0_ := Aside0.mk (Kd.S_below (by (with_reducible repeat (first | apply Kd.S_alloc | apply Kd.S_drewN | apply Kd.S_drew)); exact HO_0.out) hb); have n1_ := Aside0.mk (below_step (by repeat (first | (with_reducible first | exact HB.out | apply below_alloc | apply pw_below_drewN | apply below_drew1) | exact HB.out)) hb); have n2_ := Aside0.mk (Kept.below (by repeat (first | (with_reducible first | exact HK.out | apply Kept.alloc | apply Kept.drewN | apply Kept.drew) | exact HK.out)) hb);
             clear HO_0; clear HB; clear HK; have HO_0 := n0_; have HB := n1_; have HK := n2_; clear n0_ n1_ n2_; clear hb;
             obtain ⟨oki, ce, hcl, hM, hcc, hfr, hoki, hH⟩ := Kd.S_elem HO_0.out z51 x5_1 hy0 q5; rw [← NE5.out] at hM; obtain ⟨v1, rfl, ge⟩ := k51_openM hM;
             have hx0 := hcc 0 _ rfl; (try simp only [show (k51).sz = 2 from rfl, Nat.mul_one, Nat.add_zero] at hx0); have hf0 := hfr 0; (try simp only [show (k51).sz = 2 from rfl, Nat.mul_one, Nat.add_zero] at hf0);
             have HP := Kd.S_seg0 hH hy0 q5 (seg := [.string t]) (j := 0) (show 1 ≤ 2 from by decide) (x' := (⟨t, E5.f1⟩ : S51)) (k51_mkM _ _ _ (⟨t, E5.f1⟩ : S51) ge) (fun _ hk => hk); clear hcl hcc hfr hM hH)
          | ((with_reducible refine gate_store (t := 9) (p := 17) rfl ?_); refine store_event (t := 9) (p := 17) (v := ?vo_w13) (w1 := (w11.setCell ⟨go5, x5_1.toNat * 2, none⟩ (.string t))) ?hg ?ho ?hn ?hr ?_; (case ho => rfl); (case hg => rfl); (case hn => rfl); (case hr => first | (go_simp; done) | (go_simp; rfl)); intro w13 hw; have hg : w11.grownBy w13 (some go5) := (by rw [hw]; exact HP.2); have hp_ : Kd.S k51 51 w13 w0.heap.size (TripB w) (.slice (some ⟨go5, 0, none⟩) y.length co6) (y.set x5_1.toNat (⟨t, E5.f1⟩ : S51)) := (by rw [hw]; exact HP.1); clear HP;
             have n0_ := Aside0.mk hp_; have n1_ := Aside0.mk ((by rw [hw]; exact below_set HB.out GB5.out : Below w0.heap.size w0 w13)); have n2_ := Aside0.mk (Kept.of_grown hg HK.out (fun k_ e_ => .inl (by injection e_ with e_; subst e_; exact HTg.out)));
             clear HO_0; clear HB; clear HK; have HO_0 := n0_; have HB := n1_; have HK := n2_; clear n0_ n1_ n2_; clear hg hw hp_; clear hx0 hf0 ge hoki;
             obtain ⟨okj, ce, hcl, hM, hcc, hokj, hH⟩ := Kd.S_lend HO_0.out z51 x5_1 hy0 q5; rw [getD_set_T51 y x5_1.toNat _ (by omega)] at hM; obtain ⟨v1, rfl, ge⟩ := k51_openM hM; clear hcl; obtain ⟨A1, c1, rfl⟩ := Kd.R_slice ge;
             have hx1 := hcc 1 _ rfl; (try simp only [show (k51).sz = 2 from rfl] at hx1); have hx0 := hcc 0 _ rfl; (try simp only [show (k51).sz = 2 from rfl, Nat.mul_one, Nat.add_zero] at hx0)))
        refine (laws_markCallS.calls k1 (fun k_ => some k_ = (.slice A1 E5.f1.length c1 : Value).ownBlock) _ _ _ n2 cs2 w0 _ ?side1 ?side2 (by have e_ := HAc.out; rw [show rd_T51 y x5_1 = E5 from NE5.out.symm] at e_; exact e_)).mono ?_
        · skip
          ( repeat (first | (with_reducible first | exact HB.out | apply below_alloc | apply pw_below_drewN | apply below_drew1) | exact HB.out))
        · skip
          ( (with_reducible repeat (first | apply Kd.R_alloc | apply Kd.R_drewN | apply Kd.R_drew)); exact Kd.R_tight rfl ge)
        rintro e w27 ⟨rfl, hy9, hb, hkp⟩
        have n0_ := Aside0.mk (Kd.H_back (Kd.H_kept (by (with_reducible repeat (first | apply Kd.H_alloc | apply Kd.H_drewN | apply Kd.H_drew)); exact hH) hkp (fun k_ hk1 hk2 hk3 => hk2 (ge.1 k_ hk3.symm))) (k51_mkM _ _ _ (⟨t, cs2⟩ : S51) (Kd.R_reok rfl hy9 (fun k_ e_ => ge.1 k_ e_))) (fun _ hk => hk))
        have n1_ := Aside0.mk hb
        have n2_ := Aside0.mk (Kept.then_ (by repeat (first | (with_reducible first | exact HK.out | apply Kept.alloc | apply Kept.drewN | apply Kept.drew) | exact HK.out)) hkp (fun k_ hk => .inl (hokj k_ (ge.1 k_ hk.symm)).1))
        clear HO_0
        clear HB
        clear HK
        have HO_0 := n0_
        have HB := n1_
        have HK := n2_
        clear n0_ n1_ n2_
        clear hy9 hb hkp
        go_wp2
        go_roundg k1
        case measure => have := HK1.out; omega
        case rel => exact ⟨_, _, _, rfl, rfl, H', ⟨by have := HK1.out; omega⟩, ⟨by have e_ := HO_0.out; rw [List.set_set] at e_; exact e_⟩, HK, HB⟩
      · rw [if_neg c3] at H
        have c3b0 : decide (x5_1 < (y.length : Int)) = false := decide_eq_false c3
        clear c3
        obtain rfl := Option.some.inj H
        go_wp2
        go_ret
        exact ⟨rfl, HB.out, HK.out⟩
end Go.Proofs.Ytdpjoblnjjkbfaa.P

/- The program's Latest: a contract by hand. -/
import Derived.Test.YtdpjoblnjjkbfaaF5
import Derived.Test.YtdpjoblnjjkbfaaPx7
namespace Go.Proofs.Ytdpjoblnjjkbfaa.P
open Go.RowKit Go.Proofs.YtdpjoblnjjkbfaaW.PrintWords Go.Proofs.YtdpjoblnjjkbfaaW.PrintLast Go.Proofs.YtdpjoblnjjkbfaaW.PrintMore
attribute [local go_sem] max2_int min2_int max_two min_two max_three min_three max_four min_four   -- for this text's walks alone
set_option linter.unusedVariables false
set_option linter.unusedSimpArgs false

set_option maxHeartbeats 16000000 in
set_option maxRecDepth 100000 in
theorem impl_Latest.calls (k : Nat) (A0 : Option Addr) (c0 : Nat) (l0 : List (S51)) (a1 : Int) (a2 : Int) (a3 : Int) (a4 : Int) (a5 : Int) (r : Int) (w : World) (hr0 : Kd.C k51 w A0 l0.length l0) (hc0 : l0.length ≤ c0) (h : impl_Latest.f k l0 a1 a2 a3 a4 a5 = some r) :
    Calls Try.prog 17 #[.slice A0 l0.length c0, .int .i64 a1, .int .i64 a2, .int .i64 a3, .int .i64 a4, .int .i64 a5] w fun e w' => e = .returned (.int .i64 r) ∧ Below w.heap.size w w' := by
  have hu63 := Try.underlying63; have hu65 := Try.underlying65; have mixed : Try.prog.follows Departure.mixedOrders = true := by kernel_rfl
  have HR0 := Aside0.mk hr0
  have HC0 := Aside0.mk hc0
  clear hr0 hc0
  obtain ⟨t, A6, H⟩ := Option.bind_eq_some_iff.1 h
  clear h
  cases t with
  | false =>
    obtain rfl : (-1 : Int) = r := by simpa using H
    go_enter Try.func17, Try.ntmps17
    go_wp2_with (go_at_call 36; refine (impl_questionOk.calls k A0 c0 l0 a1 a2 a3 a4 a5 false _ (by first | exact HR0.out | exact Kd.C_drew HR0.out | exact Kd.C_drewN HR0.out _) HC0.out A6).mono ?_; rintro e w1 ⟨rfl, hb1⟩)
    go_ret
    exact ⟨rfl, hb1⟩
  | true =>
    simp only [if_true, impl_Latest.l1] at H
    split at H
    case isFalse => simp at H
    rename_i hc
    obtain ⟨i1, i2, i3, i4, i5, i6, i7, i8, i9, ia, ib⟩ := hc
    obtain ⟨hops, hhops⟩ : ∃ q : Nat, a5 = (q : Int) := ⟨a5.toNat, by omega⟩
    subst hhops
    rw [Int.toNat_natCast] at H
    have HQ := Aside0.mk A6
    clear A6
    have h5 : hops ≤ 5 := by omega
    by_cases ceq : a1 = a2
    · rw [if_pos ceq] at H
      obtain rfl := Option.some.inj H
      subst ceq
      clear i1 i2 i3 i4 i5 i6 i7 i8 i9 ia ib
      go_enter Try.func17, Try.ntmps17
      go_wp2_with (go_at_call 36; refine (impl_questionOk.calls k A0 c0 l0 _ _ _ _ (hops : Int) true _ (by first | exact HR0.out | exact Kd.C_drew HR0.out | exact Kd.C_drewN HR0.out _) HC0.out HQ.out).mono ?_; rintro e w1 ⟨rfl, hb1⟩)
      go_ret
      exact ⟨rfl, hb1⟩
    · have cd : decide (a1 = a2) = false := decide_eq_false ceq
      rw [if_neg ceq] at H
      obtain ⟨fn, hfn⟩ : ∃ q : Nat, a1 = (q : Int) := ⟨a1.toNat, by omega⟩
      subst hfn
      rw [Int.toNat_natCast] at H
      obtain ⟨o, ho⟩ : ∃ q, q = impl_departures.l7 l0 a2 a3 a4 hops := ⟨_, rfl⟩
      rw [← ho] at H
      have HO := Aside0.mk ho
      have HRES := Aside0.mk (Option.some.inj H)
      have HCH : Aside0 (0 ≤ a4 ∧ a4 ≤ 60) := ⟨⟨i8, i9⟩⟩
      have HOK := Aside0.mk (tb_ok_of l0 i1)
      have hf1 : fn < 30 := by omega
      clear H ho i1 i4 i5 i6 i7 i8 i9 ia ib
      go_enter Try.func17, Try.ntmps17
      go_wp2_with (first
        | (go_at_call 36; refine (impl_questionOk.calls k A0 c0 l0 (fn : Int) a2 a3 a4 (hops : Int) true _ (by first | exact HR0.out | exact Kd.C_drew HR0.out | exact Kd.C_drewN HR0.out _) HC0.out HQ.out).mono ?_; rintro e w1 ⟨rfl, hb1⟩; have HB1 := Aside0.mk hb1; clear hb1)
        | (go_at_call 43; refine (hd_departures A0 c0 l0 a2 a3 a4 hops _ (by first | exact Kd.C_below HR0.out HB1.out | exact Kd.C_drewN (Kd.C_below HR0.out HB1.out) _) HC0.out h5 HCH.out HOK.out).mono ?_; rintro e w3 ⟨g, cap, rfl, har, hgb, hb⟩; rw [← HO.out] at har))
      have HA0 := Aside0.mk har
      have HB0 := Aside0.mk (below_step HB1.out hb)
      clear har hb HB1
      go_loopg [13, 35] (hops + 2) (fun kq v13 v35 w' => ∃ (h : Nat) (b : Int), v13 = .int .i64 b ∧ v35 = .int .i64 (h : Int) ∧ h ≤ hops + 1 ∧ hops + 2 ≤ h + kq ∧ Aside0 (b = impl_Latest.l0 o fn h) ∧ Aside0 (AR w' g (hops + 1) cap o) ∧ Aside0 (Below w.heap.size w w'))
      case atStart => exact ⟨0, -1, rfl, rfl, by omega, by omega, ⟨rfl⟩, HA0, HB0⟩
      case round =>
        clear HA0 HB0
        obtain ⟨h, b, rfl, rfl, hh, hg, HS, HA, HB⟩ := hrel
        by_cases c : h < hops + 1
        · have cz : (h : Int) < (hops : Int) + 1 := by omega
          have h0 : (0 : Int) ≤ (h : Int) := by omega
          obtain ⟨X, hX⟩ : ∃ q, q = rowX o h := ⟨_, rfl⟩
          have HXL : Aside0 (Sem.run Try.prog (loadCells ⟨g, h * 30, none⟩ 30) wr = .ok X wr) := ⟨by rw [hX]; exact ar_row HA.out h c⟩
          have HXS : Aside0 (X.size = 30) := ⟨by rw [hX]; exact rowX_size o h⟩
          have HXA : Aside0 (X.all (·.oneCell') = true) := ⟨by rw [hX]; exact rowX_all o h⟩
          have HXG : Aside0 (X[fn]? = some (.int .i64 (o.getD (h * 30 + fn) 0))) := ⟨by rw [hX]; exact rowX_get o h fn hf1⟩
          clear hX
          obtain ⟨y, hy⟩ : ∃ q, q = o.getD (h * 30 + fn) 0 := ⟨_, rfl⟩
          rw [← hy] at HXG
          have HY := Aside0.mk hy
          clear hy
          have HMX : Aside0 (∀ q : Int, q = (if b < y then y else b) → q = impl_Latest.l0 o fn (h + 1)) := ⟨fun q hq => by rw [impl_Latest.l0, ← HS.out, ← HY.out, dp_max, hq]⟩
          by_cases c2 : b < y
          · have cd2 : decide (b < y) = true := decide_eq_true c2
            have HM2 : Aside0 (y = impl_Latest.l0 o fn (h + 1)) := ⟨HMX.out y (by rw [if_pos c2])⟩
            clear HMX
            go_wp2_with (first
              | ((with_reducible refine gate_dst (N := 38) rfl ?_); refine Kd.event_run ?hgd (hd_exec65 _ _ _ _ X 37 rfl rfl HXL.out) ?_; (case hgd => rfl))
              | ((with_reducible refine gate_dst (N := 15) rfl ?_); refine Kd.event_run ?hgd (hd_exec_al65 _ _ _ rfl) ?_; (case hgd => rfl); have HN := Aside0.mk (blk_new wr (Obj.cells zs30.toArray 65 (0, 0))); have HA1 := Aside0.mk (ar_below HA.out (below_alloc (Below.refl wr.heap.size wr) (Obj.cells zs30.toArray 65 (0, 0)))); have HB1 := Aside0.mk (below_alloc HB.out (Obj.cells zs30.toArray 65 (0, 0))); have HNE := Aside0.mk (Nat.ne_of_lt (ar_lt HA.out)); have HGE := Aside0.mk (below_size HB.out); generalize wr.alloc (Obj.cells zs30.toArray 65 (0, 0)) = w8 at HN HA1 HB1 ⊢; generalize wr.heap.size = B at HN HNE HGE ⊢)
              | (refine wpList_store_row rfl 65 (.tmp 15) (.tmp 38) rfl B X rfl rfl 65 zs30.toArray HN.out (hd_size65 X HXS.out) (by rw [HXS.out]; rfl) HXA.out ?_; have HA2 := Aside0.mk (ar_setRow HA1.out HNE.out X); have HB2 := Aside0.mk (below_setRow HB1.out HGE.out X); have HX2 := setRow_heap w8 B zs30.toArray X 65 (0, 0) HN.out; generalize w8.setRow B X = w9 at HA2 HB2 HX2 ⊢; have hq : w9.cell? ⟨B, fn, none⟩ = some (.int .i64 y) := (by rw [blk_cell HX2]; exact HXG.out); clear HX2 HN HA1 HB1))
            go_roundg (gk - 1)
            case measure => omega
            case rel => exact ⟨h + 1, y, rfl, by go_num, by omega, by omega, HM2, HA2, HB2⟩
          · have cd2 : decide (b < y) = false := decide_eq_false c2
            have HM2 : Aside0 (b = impl_Latest.l0 o fn (h + 1)) := ⟨HMX.out b (by rw [if_neg c2])⟩
            clear HMX
            go_wp2_with (first
              | ((with_reducible refine gate_dst (N := 38) rfl ?_); refine Kd.event_run ?hgd (hd_exec65 _ _ _ _ X 37 rfl rfl HXL.out) ?_; (case hgd => rfl))
              | ((with_reducible refine gate_dst (N := 15) rfl ?_); refine Kd.event_run ?hgd (hd_exec_al65 _ _ _ rfl) ?_; (case hgd => rfl); have HN := Aside0.mk (blk_new wr (Obj.cells zs30.toArray 65 (0, 0))); have HA1 := Aside0.mk (ar_below HA.out (below_alloc (Below.refl wr.heap.size wr) (Obj.cells zs30.toArray 65 (0, 0)))); have HB1 := Aside0.mk (below_alloc HB.out (Obj.cells zs30.toArray 65 (0, 0))); have HNE := Aside0.mk (Nat.ne_of_lt (ar_lt HA.out)); have HGE := Aside0.mk (below_size HB.out); generalize wr.alloc (Obj.cells zs30.toArray 65 (0, 0)) = w8 at HN HA1 HB1 ⊢; generalize wr.heap.size = B at HN HNE HGE ⊢)
              | (refine wpList_store_row rfl 65 (.tmp 15) (.tmp 38) rfl B X rfl rfl 65 zs30.toArray HN.out (hd_size65 X HXS.out) (by rw [HXS.out]; rfl) HXA.out ?_; have HA2 := Aside0.mk (ar_setRow HA1.out HNE.out X); have HB2 := Aside0.mk (below_setRow HB1.out HGE.out X); have HX2 := setRow_heap w8 B zs30.toArray X 65 (0, 0) HN.out; generalize w8.setRow B X = w9 at HA2 HB2 HX2 ⊢; have hq : w9.cell? ⟨B, fn, none⟩ = some (.int .i64 y) := (by rw [blk_cell HX2]; exact HXG.out); clear HX2 HN HA1 HB1))
            go_roundg (gk - 1)
            case measure => omega
            case rel => exact ⟨h + 1, b, rfl, by go_num, by omega, by omega, HM2, HA2, HB2⟩
        · have cz : ¬ (h : Int) < (hops : Int) + 1 := by omega
          have he : h = hops + 1 := by omega
          subst he
          have HE : Aside0 (b = r) := ⟨by rw [HS.out]; exact HRES.out⟩
          obtain rfl := HE.out
          go_wp2
          go_ret
          exact ⟨rfl, HB.out⟩
end Go.Proofs.Ytdpjoblnjjkbfaa.P

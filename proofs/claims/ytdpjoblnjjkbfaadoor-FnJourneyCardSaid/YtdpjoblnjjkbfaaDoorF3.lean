/- The program's soonest: a contract by hand. -/
import Derived.Test.YtdpjoblnjjkbfaaDoorF3a
import Derived.Test.YtdpjoblnjjkbfaaDoorF2
namespace Go.Proofs.YtdpjoblnjjkbfaaDoor.P
open Go.RowKit Go.Proofs.YtdpjoblnjjkbfaaDoorW.PrintWords Go.Proofs.YtdpjoblnjjkbfaaDoorW.PrintLast Go.Proofs.YtdpjoblnjjkbfaaDoorW.PrintMore
attribute [local go_sem] max2_int min2_int max_two min_two max_three min_three max_four min_four   -- for this text's walks alone
set_option linter.unusedVariables false
set_option linter.unusedSimpArgs false

set_option maxHeartbeats 16000000 in
set_option maxRecDepth 100000 in
theorem hd_soonest (A0 : Option Addr) (c0 : Nat) (l0 : List (S46)) (fr tg mi ch : Int) (hops : Nat) (w : World) (hr0 : Kd.C k46 w A0 l0.length l0) (hc0 : l0.length ≤ c0) (h5 : hops ≤ 5) (hf : 0 ≤ fr ∧ fr < 30) (ht : 0 ≤ tg ∧ tg < 30) (hm : 0 ≤ mi ∧ mi ≤ 100000) (hch : 0 ≤ ch ∧ ch ≤ 60) (hok : ar_ok l0) :
    Calls Tryd.prog 35 #[.slice A0 l0.length c0, .int .i64 fr, .int .i64 tg, .int .i64 mi, .int .i64 ch, .int .i64 (hops : Int)] w fun e w' => e = .returned (.tuple #[.int .i64 (impl_soonest.l2 l0 fr tg mi ch hops).1, .int .i64 (impl_soonest.l2 l0 fr tg mi ch hops).2]) ∧ Below w.heap.size w w' := by
  have hu70 := Tryd.underlying70; have hu74 := Tryd.underlying74; have mixed : Tryd.prog.follows Departure.mixedOrders = true := by kernel_rfl
  have HR0 := Aside0.mk hr0
  have HOK := Aside0.mk hok
  have HM := Aside0.mk hm
  have HCH := Aside0.mk hch
  have HF := Aside0.mk hf
  clear hr0 hok hm hch hf
  obtain ⟨tn, htn⟩ : ∃ q : Nat, tg = (q : Int) := ⟨tg.toNat, by omega⟩
  subst htn
  have ht1 : tn < 30 := by omega
  obtain ⟨r, hr⟩ : ∃ q, q = impl_soonest.l2 l0 fr (tn : Int) mi ch hops := ⟨_, rfl⟩
  rw [← hr]
  have HRES := Aside0.mk hr
  clear hr
  go_enter Tryd.func35, Tryd.ntmps35
  go_wp2_with (first | (go_at_call 57; refine (hd_arrivals A0 c0 l0 fr mi ch hops _ HR0.out hc0 h5 HF.out HM.out HCH.out HOK.out).mono ?_; rintro e w1 ⟨g, cap, rfl, har, hgb, hb⟩))
  have HA := Aside0.mk har
  have HB := Aside0.mk hb
  have HGB := Aside0.mk hgb
  clear har hb hgb
  obtain ⟨o, ho⟩ : ∃ q, q = impl_arrivals.l3 l0 fr mi ch hops := ⟨_, rfl⟩
  rw [← ho] at HA
  have HRES2 : Aside0 (r = impl_soonest.l1 (impl_soonest.l0 o tn (hops + 1))) := ⟨by rw [HRES.out, ho]; unfold impl_soonest.l2; rw [Int.toNat_natCast]⟩
  clear ho HRES
  go_loopg [14, 15, 25] (hops + 2) (fun kq v14 v15 v25 w' => ∃ (h : Nat) (b q : Int), v14 = .int .i64 b ∧ v15 = .int .i64 q ∧ v25 = .int .i64 (h : Int) ∧ h ≤ hops + 1 ∧ hops + 2 ≤ h + kq ∧ Aside0 ((b, q) = impl_soonest.l0 o tn h) ∧ Aside0 (AR w' g (hops + 1) cap o) ∧ Aside0 (Below w.heap.size w w'))
  case atStart => exact ⟨0, 100001, -1, rfl, rfl, rfl, by omega, by omega, ⟨rfl⟩, HA, HB⟩
  case round =>
    clear HA HB
    obtain ⟨h, b, q, rfl, rfl, rfl, hh, hg, HS, HA, HB⟩ := hrel
    by_cases c : h < hops + 1
    · have cz : (h : Int) < (hops : Int) + 1 := by omega
      have h0 : (0 : Int) ≤ (h : Int) := by omega
      obtain ⟨X, hX⟩ : ∃ q, q = rowX o h := ⟨_, rfl⟩
      have HXL : Aside0 (Sem.run Tryd.prog (loadCells ⟨g, h * 30, none⟩ 30) wr = .ok X wr) := ⟨by rw [hX]; exact ar_row HA.out h c⟩
      have HXS : Aside0 (X.size = 30) := ⟨by rw [hX]; exact rowX_size o h⟩
      have HXA : Aside0 (X.all (·.oneCell') = true) := ⟨by rw [hX]; exact rowX_all o h⟩
      have HXG : Aside0 (X[tn]? = some (.int .i64 (o.getD (h * 30 + tn) 0))) := ⟨by rw [hX]; exact rowX_get o h tn ht1⟩
      clear hX
      obtain ⟨y, hy⟩ : ∃ q, q = o.getD (h * 30 + tn) 0 := ⟨_, rfl⟩
      rw [← hy] at HXG
      have HY := Aside0.mk hy
      clear hy
      by_cases c2 : y < b
      · have cd : decide (y < b) = true := decide_eq_true c2
        go_wp2_with (first | ((with_reducible refine gate_dst (N := 29) rfl ?_); refine Kd.event_run ?hgd (hd_exec74 _ _ _ _ X 28 rfl rfl HXL.out) ?_; (case hgd => rfl)) | ((with_reducible refine gate_dst (N := 17) rfl ?_); refine Kd.event_run ?hgd (hd_exec_al74 _ _ _ rfl) ?_; (case hgd => rfl); have HN := Aside0.mk (blk_new wr (Obj.cells zs30.toArray 74 (0, 0))); have HA1 := Aside0.mk (ar_below HA.out (below_alloc (Below.refl wr.heap.size wr) (Obj.cells zs30.toArray 74 (0, 0)))); have HB1 := Aside0.mk (below_alloc HB.out (Obj.cells zs30.toArray 74 (0, 0))); have HNE := Aside0.mk (Nat.ne_of_lt (ar_lt HA.out)); have HGE := Aside0.mk (below_size HB.out); generalize wr.alloc (Obj.cells zs30.toArray 74 (0, 0)) = w8 at HN HA1 HB1 ⊢; generalize wr.heap.size = B at HN HNE HGE ⊢) | (refine wpList_store_row rfl 74 (.tmp 17) (.tmp 29) rfl B X rfl rfl 74 zs30.toArray HN.out (hd_size74 X HXS.out) (by rw [HXS.out]; rfl) HXA.out ?_; have HA2 := Aside0.mk (ar_setRow HA1.out HNE.out X); have HB2 := Aside0.mk (below_setRow HB1.out HGE.out X); have HX2 := setRow_heap w8 B zs30.toArray X 74 (0, 0) HN.out; generalize w8.setRow B X = w9 at HA2 HB2 HX2 ⊢; have hq : w9.cell? ⟨B, tn, none⟩ = some (.int .i64 y) := (by rw [blk_cell HX2]; exact HXG.out); clear HX2 HN HA1 HB1))
        go_roundg (gk - 1)
        case measure => omega
        case rel => exact ⟨h + 1, y, (h : Int), rfl, rfl, by go_num, by omega, by omega, ⟨by rw [impl_soonest.l0, ← HS.out, ← HY.out, if_pos c2]⟩, HA2, HB2⟩
      · have cd : decide (y < b) = false := decide_eq_false c2
        go_wp2_with (first | ((with_reducible refine gate_dst (N := 29) rfl ?_); refine Kd.event_run ?hgd (hd_exec74 _ _ _ _ X 28 rfl rfl HXL.out) ?_; (case hgd => rfl)) | ((with_reducible refine gate_dst (N := 17) rfl ?_); refine Kd.event_run ?hgd (hd_exec_al74 _ _ _ rfl) ?_; (case hgd => rfl); have HN := Aside0.mk (blk_new wr (Obj.cells zs30.toArray 74 (0, 0))); have HA1 := Aside0.mk (ar_below HA.out (below_alloc (Below.refl wr.heap.size wr) (Obj.cells zs30.toArray 74 (0, 0)))); have HB1 := Aside0.mk (below_alloc HB.out (Obj.cells zs30.toArray 74 (0, 0))); have HNE := Aside0.mk (Nat.ne_of_lt (ar_lt HA.out)); have HGE := Aside0.mk (below_size HB.out); generalize wr.alloc (Obj.cells zs30.toArray 74 (0, 0)) = w8 at HN HA1 HB1 ⊢; generalize wr.heap.size = B at HN HNE HGE ⊢) | (refine wpList_store_row rfl 74 (.tmp 17) (.tmp 29) rfl B X rfl rfl 74 zs30.toArray HN.out (hd_size74 X HXS.out) (by rw [HXS.out]; rfl) HXA.out ?_; have HA2 := Aside0.mk (ar_setRow HA1.out HNE.out X); have HB2 := Aside0.mk (below_setRow HB1.out HGE.out X); have HX2 := setRow_heap w8 B zs30.toArray X 74 (0, 0) HN.out; generalize w8.setRow B X = w9 at HA2 HB2 HX2 ⊢; have hq : w9.cell? ⟨B, tn, none⟩ = some (.int .i64 y) := (by rw [blk_cell HX2]; exact HXG.out); clear HX2 HN HA1 HB1))
        go_roundg (gk - 1)
        case measure => omega
        case rel => exact ⟨h + 1, b, q, rfl, rfl, by go_num, by omega, by omega, ⟨by rw [impl_soonest.l0, ← HS.out, ← HY.out]; exact (if_neg (by show ¬ y < b; omega)).symm⟩, HA2, HB2⟩
    · have cz : ¬ (h : Int) < (hops : Int) + 1 := by omega
      have he : h = hops + 1 := by omega
      subst he
      have HE : Aside0 (r = impl_soonest.l1 (b, q)) := ⟨by rw [HRES2.out, ← HS.out]⟩
      clear HS HRES2
      by_cases c2 : q < 0
      · have cd : decide (q < 0) = true := decide_eq_true c2
        have he : r = (-1, -1) := by rw [HE.out]; unfold impl_soonest.l1; rw [if_pos c2]
        subst he
        clear HE
        go_wp2
        refine bodyPost_ret (results_list (rs := [.tmp 12, .tmp 13]) rfl (by simp) (.tmp (.tmp .nil))) rfl ?_
        exact ⟨rfl, HB.out⟩
      · have cd : decide (q < 0) = false := decide_eq_false c2
        have he : r = (b, q) := by rw [HE.out]; unfold impl_soonest.l1; rw [if_neg c2]
        subst he
        clear HE
        go_wp2
        refine bodyPost_ret (results_list (rs := [.tmp 12, .tmp 13]) rfl (by simp) (.tmp (.tmp .nil))) rfl ?_
        exact ⟨rfl, HB.out⟩
theorem hd_soonest_f (A0 : Option Addr) (c0 : Nat) (l0 : List (S46)) (a1 : Int) (a2 : Int) (a3 : Int) (a4 : Int) (a5 : Int) (r1 : Int) (r2 : Int) (w : World) (hr0 : Kd.C k46 w A0 l0.length l0) (hc0 : l0.length ≤ c0) (h : impl_soonest.f l0 a1 a2 a3 a4 a5 = some (r1, r2)) :
    Calls Tryd.prog 35 #[.slice A0 l0.length c0, .int .i64 a1, .int .i64 a2, .int .i64 a3, .int .i64 a4, .int .i64 a5] w fun e w' => e = .returned (.tuple #[.int .i64 r1, .int .i64 r2]) ∧ Below w.heap.size w w' := by
  unfold impl_soonest.f at h
  split at h
  · rename_i hh
    obtain ⟨h1, h2, h3, h4, h5, h6, h7, h8, h9, h10, h11⟩ := hh
    have hc := hd_soonest A0 c0 l0 a1 a2 a3 a4 a5.toNat w hr0 hc0 (by omega) ⟨h2, h3⟩ ⟨h4, h5⟩ ⟨h6, h7⟩ ⟨h8, h9⟩ (ar_ok_of l0 h1)
    rw [Option.some.inj h, Int.toNat_of_nonneg h10] at hc
    exact hc
  · simp at h
end Go.Proofs.YtdpjoblnjjkbfaaDoor.P

/- Contracts of functions, each with its plain Lean function. -/
import Derived.Test.YtdpjoblnjjkbfaaDoorPx0
namespace Go.Proofs.YtdpjoblnjjkbfaaDoor.P
open Go.RowKit Go.Proofs.YtdpjoblnjjkbfaaDoorW.PrintWords Go.Proofs.YtdpjoblnjjkbfaaDoorW.PrintLast Go.Proofs.YtdpjoblnjjkbfaaDoorW.PrintMore
attribute [local go_sem] max2_int min2_int max_two min_two max_three min_three max_four min_four   -- for this text's walks alone
set_option linter.unusedVariables false
set_option linter.unusedSimpArgs false

/-! ### impl_tripNamed: function 60, by hand -/
/-- The place of the first unit of which p holds, or -1. -/
def idxT (p : S46 → Bool) (l : List S46) : Int := if l.findIdx p < l.length then (l.findIdx p : Int) else -1

theorem hd_rd_nat (l : List S46) (j : Nat) (h : j < l.length) : rd_T46 l (j : Int) = l[j] := by
  unfold rd_T46; rw [Int.toNat_natCast]; simp [List.getD_eq_getElem?_getD, h]
theorem idxT_hit (p : S46 → Bool) (l : List S46) (n k : Nat) (hk : k < n) (hn : n ≤ l.length) (h : p (rd_T46 l k) = true) (hb : ∀ j, j < k → p (rd_T46 l (j : Int)) = false) : idxT p (l.take n) = (k : Int) := by
  have hk' : k < (l.take n).length := by simp; omega
  have hf : (l.take n).findIdx p = k := by
    rw [List.findIdx_eq hk']
    refine ⟨?_, fun j hj => ?_⟩
    · rw [hd_rd_nat l k (by omega)] at h; simpa using h
    · have := hb j hj; rw [hd_rd_nat l j (by omega)] at this; simpa using this
  unfold idxT; rw [hf, if_pos hk']
theorem idxT_miss (p : S46 → Bool) (l : List S46) (n : Nat) (hn : n ≤ l.length) (hb : ∀ j, j < n → p (rd_T46 l (j : Int)) = false) : idxT p (l.take n) = -1 := by
  have : ¬ (l.take n).findIdx p < (l.take n).length := by
    rw [List.findIdx_lt_length]
    rintro ⟨x, hx, hpx⟩
    obtain ⟨j, hj, rfl⟩ := List.getElem_of_mem hx
    have hj' : j < n := by simp at hj; omega
    have := hb j hj'
    rw [hd_rd_nat l j (by omega)] at this
    simp [this] at hpx
  unfold idxT; rw [if_neg this]
theorem idxT_any (p : S46 → Bool) (l : List S46) : decide (0 ≤ idxT p l) = l.any p := by
  unfold idxT
  cases h : l.any p
  · have : ¬ l.findIdx p < l.length := by
      rw [List.findIdx_lt_length]; intro ⟨x, hx, hp⟩
      have := List.any_eq_true.2 ⟨x, hx, hp⟩; simp [h] at this
    simp [this]
  · have : l.findIdx p < l.length := by
      rw [List.findIdx_lt_length]; exact List.any_eq_true.1 h
    simp [this]

def PredT (lb : Array Value) (p : S46 → Bool) (w : World) : Prop :=
  ∀ (W : World) (x : S46) (A1 : Option Addr) (c1 : Nat), Below w.heap.size w W → Calls Tryd.prog 70 (#[.agg #[.string x.f0, .slice A1 x.f1.length c1]] ++ lb) W fun e w' => e = .returned (.bool (p x)) ∧ Below w.heap.size w w'

set_option maxHeartbeats 2000000 in
theorem indexFunc_T (lb : Array Value) (p : S46 → Bool) (A : Option Addr) (n c : Nat) (l : List S46) (w : World)
    (hr : Kd.C k46 w A l.length l) (hn : n ≤ l.length) (hbig : n ≤ 9223372036854775807) (hp : PredT lb p w) :
    Calls Tryd.prog 69 #[.slice A n c, .func (.func 70) #[] lb] w fun e w' => e = .returned (.int .i64 (idxT p (l.take n))) ∧ Below w.heap.size w w' := by
  have hu46 := Tryd.underlying46
  have HR := Aside0.mk hr
  clear hr
  go_enter Tryd.func69, Tryd.ntmps69
  go_wp2
  go_loopg [5, 8] n (fun gg _ s8 wr => ∃ kk : Nat, kk ≤ n ∧ n - kk ≤ gg ∧ s8 = .int .i64 kk ∧ Aside0 (Below w.heap.size w wr) ∧ Aside0 (∀ j, j < kk → p (rd_T46 l j) = false))
  case atStart => exact ⟨0, Nat.zero_le _, by omega, rfl, ⟨Below.refl _ w⟩, ⟨fun j hj => absurd hj (Nat.not_lt_zero _)⟩⟩
  case round =>
    obtain ⟨kk, hkk, hg, rfl, BW, AA⟩ := hrel
    by_cases hlt : kk < n
    · have hltz : (kk : Int) < (n : Int) := by omega
      have hnn : (0 : Int) ≤ (kk : Int) := Int.natCast_nonneg kk
      have hl2 : (kk : Int) < (l.length : Int) := by omega
      obtain ⟨ad, A1, c1, e, hx0, hx1, hx2, hx3⟩ := at_T46 HR.out kk hnn hl2
      cases e
      rw [Int.toNat_natCast] at hx0 hx1
      replace hx0 := (BW.out.cell (World.block_lt_of_cell? w _ hx0)).trans hx0
      replace hx1 := (BW.out.cell (World.block_lt_of_cell? w _ hx1)).trans hx1
      clear hx2 hx3
      have hcall := hp wr (rd_T46 l kk) A1 c1 BW.out
      clear hp
      generalize hy : rd_T46 l kk = y at hcall hx0 hx1
      have B := Aside0.mk hy
      clear hy
      cases hq : p y with
      | true =>
        rw [hq] at hcall
        go_wp2_with (go_at_call 70; refine hcall.mono ?_; rintro e w' ⟨rfl, hb'⟩)
        go_ret
        refine ⟨?_, hb'⟩
        rw [idxT_hit p l n kk hlt hn (by rw [B.out]; exact hq) AA.out]
        rfl
      | false =>
        rw [hq] at hcall
        go_wp2_with (go_at_call 70; refine hcall.mono ?_; rintro e w' ⟨rfl, hb'⟩)
        go_roundg (n - (kk + 1))
        case measure => omega
        case rel =>
          refine ⟨kk + 1, by omega, by omega, by go_num, ⟨hb'⟩, ⟨fun j hj => ?_⟩⟩
          by_cases e : j = kk
          · subst e
            rw [B.out]; exact hq
          · exact AA.out j (by omega)
    · have hltz : ¬ (kk : Int) < (n : Int) := by omega
      have : kk = n := by omega
      subst this
      go_wp2
      go_ret
      refine ⟨?_, BW.out⟩
      rw [idxT_miss p l kk hn AA.out]
      rfl
/-- The closure of tripNamed: the same name as the captured one. -/
theorem pred70 (s : ByteArray) (B : Nat) (w : World) (hB : B < w.heap.size) (hcell : w.cell? ⟨B, 0, none⟩ = some (.string s)) : PredT #[.pointer (some ⟨B, 0, none⟩)] (fun x => x.f0.toList == s.toList) w := fun W x A1 c1 hb => by
  have hu46 := Tryd.underlying46
  have hc : W.cell? ⟨B, 0, none⟩ = some (.string s) := (hb.cell (p := ⟨B, 0, none⟩) hB).trans hcell
  have hBW : B < W.heap.size := Nat.lt_of_lt_of_le hB hb.size
  have hne : B ≠ W.heap.size := by omega
  show Calls Tryd.prog 70 #[.agg #[.string x.f0, .slice A1 x.f1.length c1], .pointer (some ⟨B, 0, none⟩)] W _
  go_enter Tryd.func70, Tryd.ntmps70
  go_wp2
  all_goals (go_ret; exact ⟨by simp_all, hb.alloc hb.size _⟩)
theorem hd_tripNamed (A0 : Option Addr) (c0 : Nat) (l0 : List S46) (a1 : ByteArray) (w : World) (hr0 : Kd.C k46 w A0 l0.length l0) (hc0 : l0.length ≤ c0) (hbig : l0.length ≤ 9223372036854775807) :
    Calls Tryd.prog 60 #[.slice A0 l0.length c0, .string a1] w fun e w' => e = .returned (.int .i64 (idxT (fun x => x.f0.toList == a1.toList) l0)) ∧ Below w.heap.size w w' := by
  have HR := Aside0.mk hr0
  clear hr0
  have hnb := blk_new w (Obj.cells #[.string a1] 9)
  have hbw := below_alloc (Below.refl w.heap.size w) (Obj.cells #[.string a1] 9)
  go_enter Tryd.func60, Tryd.ntmps60
  have hcall := indexFunc_T #[.pointer (some ⟨w.heap.size, 0, none⟩)] (fun x => x.f0.toList == a1.toList) A0 l0.length c0 l0 (w.alloc (Obj.cells #[.string a1] 9)) (Kd.C_below HR.out hbw) (Nat.le_refl _) hbig (pred70 a1 w.heap.size (w.alloc (Obj.cells #[.string a1] 9)) (blk_lt hnb) (by rw [blk_cell hnb]; rfl))
  rw [List.take_length] at hcall
  have HC := Aside0.mk hcall
  have HB := Aside0.mk hbw
  clear hcall hbw hnb
  go_wp2_with (go_at_call 69; refine HC.out.mono ?_; rintro e w' ⟨rfl, hb'⟩)
  go_ret
  exact ⟨rfl, below_step HB.out hb'⟩
theorem impl_tripNamed.calls (A0 : Option Addr) (c0 : Nat) (l0 : List (S46)) (a1 : ByteArray) (r : Int) (w : World) (hr0 : Kd.C k46 w A0 l0.length l0) (hc0 : l0.length ≤ c0) (h : impl_tripNamed.f l0 a1 = some r) :
    Calls Tryd.prog 60 #[.slice A0 l0.length c0, .string a1] w fun e w' => e = .returned (.int .i64 r) ∧ Below w.heap.size w w' := by
  unfold impl_tripNamed.f at h
  split at h
  · rename_i c
    obtain rfl := Option.some.inj h
    exact hd_tripNamed A0 c0 l0 a1 w hr0 hc0 (by omega)
  · simp at h

end Go.Proofs.YtdpjoblnjjkbfaaDoor.P

/- slices.symMergeCmpFunc on []int: a contract by hand. -/
import Derived.Test.YtoalolbifakpiaaS2
import Derived.Laws.Shifts
import Derived.Laws.Entries
import Derived.Deep.Cut
import Derived.Deep.DeepCutAuto
import Derived.Deep.CutBlock
import Derived.Deep.CutBlock
namespace Go.Proofs.Ytoalolbifakpiaa.P
open Go.Proofs Go.Shelf Go.RowKit Go.Lib Go.Sort
set_option linter.unusedVariables false
set_option linter.unusedSimpArgs false

theorem sy_bs_lt (Q : Nat → Bool) (i j : Nat) (h : i < j) : sy_bs Q i j = if Q ((i + j) / 2) = true then sy_bs Q ((i + j) / 2 + 1) j else sy_bs Q i ((i + j) / 2) := by rw [sy_bs, dif_pos h]
theorem sy_bs_ge (Q : Nat → Bool) (i j : Nat) (h : ¬ i < j) : sy_bs Q i j = i := by rw [sy_bs, dif_neg h]
theorem sy_up_one {α : Type} [Inhabited α] (i k : Nat) (d : Array α) (h : k + 1 < i) : sy_up (i - 1 - k) k d = sy_up (i - 1 - (k + 1)) (k + 1) (swp d k (k + 1)) := by
  obtain ⟨n, hn⟩ : ∃ n, i - 1 - k = n + 1 := ⟨i - 1 - k - 1, by omega⟩
  rw [hn, show i - 1 - (k + 1) = n by omega]
  rfl
theorem sy_down_one {α : Type} [Inhabited α] (i k : Nat) (d : Array α) (h : i < k) : sy_down (k - i) k d = sy_down (k - 1 - i) (k - 1) (swp d k (k - 1)) := by
  obtain ⟨n, hn⟩ : ∃ n, k - i = n + 1 := ⟨k - i - 1, by omega⟩
  rw [hn, show k - 1 - i = n by omega]
  rfl
theorem sy_merge_fold {α : Type} [Inhabited α] (lt : α → α → Bool) (f a m b s mid e : Nat) (d d1 d2 : Array α) (c1 : ¬ m - a = 1) (c2 : ¬ b - m = 1) (hm : mid = (a + b) / 2)
    (hs : (if m > mid then sy_bs (fun c => !lt d[mid + m - 1 - c]! d[c]!) (mid + m - b) mid else sy_bs (fun c => !lt d[mid + m - 1 - c]! d[c]!) a m) = s) (he : e = mid + m - s)
    (h1 : (if s < m ∧ m < e then sy_rot m (e - s) (m - s) (e - m) d else d) = d1) (h2 : (if a < s ∧ s < mid then sy_merge lt f a s mid d1 else d1) = d2) :
    sy_merge lt (f + 1) a m b d = if mid < e ∧ e < b then sy_merge lt f mid e b d2 else d2 := by
  subst hm
  rw [sy_merge, if_neg c1, if_neg c2]
  simp only [hs]
  rw [← he, h1, h2]
set_option maxHeartbeats 16000000 in
set_option maxRecDepth 1000000 in
theorem hd_symMerge_a {K : Nat} (g : Nat) (cb : Array Value) (cf : Fin (K + 1) → Fin (K + 1) → Int) (blk off cap N : Nat) (d0 : Array (Fin (K + 1))) (w0 : World) (eg : ∀ args w, (callFunc g args).run Try.prog w = .ok (.enter g args) w)
    (hcmp : CmpLays1 Try.prog g cb sy_int cf blk off N w0) (R : Row1 (sy_int (K := K)) w0 blk off d0) (h0 : d0.size = N) (hsz : N < 4611686018427387904) (f : Nat)
    (a m b : Nat) (d : Array (Fin (K + 1))) (w : World) (hf : b - a ≤ f + 1) (ham : a < m) (hmb : m < b) (hbN : b ≤ N) (hs : d.size = N) (S : SW sy_int w0 blk off d w) (c1 : m - a = 1) :
    Calls Try.prog 77 #[.slice (some ⟨blk, off, none⟩) N cap, .int .i64 a, .int .i64 m, .int .i64 b, .func (.func g) #[] cb] w fun e w' => e = .returned (.tuple #[]) ∧ SW sy_int w0 blk off (sy_merge (ltOf cf) (f + 1) a m b d) w' := by
  have hu39 := Try.underlying39; have mixed : Try.prog.follows Departure.mixedOrders = true := by kernel_rfl
  have HC : Aside _ := hcmp
  clear hcmp
  have S0 : Aside (SW sy_int w0 blk off d w) := S
  clear S
  go_enter Try.func77, Try.ntmps77
  have z1 : (m : Int) - (a : Int) = 1 := by omega
  go_wp2
  go_loopg [10, 11] (b - m) (fun g1 v1_ v2_ wr => ∃ (i j : Nat), v1_ = .int .i64 i ∧ v2_ = .int .i64 j ∧ m ≤ i ∧ i ≤ j ∧ j ≤ b ∧ j - i ≤ g1 ∧ Aside (SW sy_int w0 blk off d wr) ∧ Hid (sy_bs (fun h => ltOf cf d[h]! d[a]!) i j = sy_bs (fun h => ltOf cf d[h]! d[a]!) m b))
  case atStart => exact ⟨m, b, rfl, rfl, by omega, by omega, by omega, by omega, S0, rfl⟩
  case round =>
    clear S0
    obtain ⟨i, j, rfl, rfl, hi1, hij, hjb, hg1, S1, HO⟩ := hrel
    by_cases hlt : i < j
    · have hltz : (i : Int) < (j : Int) := by omega
      obtain ⟨h, hh⟩ : ∃ q, q = (i + j) / 2 := ⟨_, rfl⟩
      have zh : ((i : Int) + (j : Int)) / 2 = (h : Int) := by omega
      have z0 : 0 ≤ (i : Int) + (j : Int) := by omega
      have zb : (h : Int) < 9223372036854775808 := by omega
      have zw : IntKind.i64.wrap (h : Int) = (h : Int) := by rw [IntKind.wrap_i64]; omega
      have z3 : (i : Int) + (j : Int) < 9223372036854775808 := by omega
      have hhN : h < N := by omega
      have hmh : m ≤ h ∧ i ≤ h ∧ h < j := by omega

      have HH : Aside (h = (i + j) / 2) := hh
      clear hh
      go_wp2_with fail
      obtain ⟨x, hx⟩ : ∃ x, x = d[h]! := ⟨_, rfl⟩
      obtain ⟨y, hy⟩ : ∃ x, x = d[a]! := ⟨_, rfl⟩
      have la := S1.out.cl R (by omega) (h) (by omega)
      have lb := S1.out.cl R (by omega) (a) (by omega)
      obtain ⟨iN, hiN⟩ : ∃ q, q = h := ⟨_, rfl⟩
      obtain ⟨jN, hjN⟩ : ∃ q, q = a := ⟨_, rfl⟩
      rw [← hx, ← hiN] at la
      rw [← hy, ← hjN] at lb
      have hc := S1.out.cmp HC.out hs x y
      have e1 : ((h : Int)).toNat = iN := by omega
      have e2 : ((a : Int)).toNat = jN := by omega
      have p1 : (0 : Int) ≤ (h : Int) := by omega
      have p2 : (0 : Int) ≤ (a : Int) := by omega
      have b1 : (h : Int) < (N : Int) := by omega
      have r1 : IntKind.i64.wrap ((h : Int)) = (h : Int) := by rw [IntKind.wrap_i64]; omega
      have b2 : (a : Int) < (N : Int) := by omega
      unfold sy_int at la lb hc
      have HV : Aside (ltOf cf d[h]! d[a]! = decide (cf x y < 0)) := (by show _ = _; rw [hx, hy]; rfl : ltOf cf d[h]! d[a]! = decide (cf x y < 0))
      clear zh z0 z3 zw hx hy hiN hjN
      go_wp2_with fail
      go_quiet_grown (first | (go_at_fn g; refine Calls.grown_of (hc _ _)))
      have S2 : Aside (SW sy_int w0 blk off d (grow (wr.drewN nq) osq)) := S1.out.grown nq osq
      clear la lb hc S1
      generalize grow (wr.drewN nq) osq = w2 at S2 ⊢
      clear nq osq
      clear e1 e2
      cases hv : decide (cf x y < 0) with
      | true =>
        rw [hv] at HV
        have hv' : cf x y < 0 := of_decide_eq_true hv
        have hv2 : decide (0 ≤ cf x y) = false := decide_eq_false (by omega)
        (try simp only [hv2, Bool.not_true, Bool.not_false])
        clear hv hv' hv2
        go_wp2_with fail
        go_roundg (j - (h + 1))
        case measure => omega
        case rel => exact ⟨h + 1, j, by go_num, rfl, by omega, by omega, hjb, Nat.le_refl _, S2, (show Hid _ from by rw [← HO.out, sy_bs_lt _ i j hlt, ← HH.out, if_pos HV.out]; exact rfl)⟩
      | false =>
        rw [hv] at HV
        have hv' : ¬ cf x y < 0 := of_decide_eq_false hv
        have hv2 : decide (0 ≤ cf x y) = true := decide_eq_true (by omega)
        (try simp only [hv2, Bool.not_true, Bool.not_false])
        clear hv hv' hv2
        go_wp2_with fail
        go_roundg (h - i)
        case measure => omega
        case rel => exact ⟨i, h, rfl, rfl, hi1, by omega, by omega, Nat.le_refl _, S2, (show Hid _ from by rw [← HO.out, sy_bs_lt _ i j hlt, ← HH.out, if_neg (by rw [HV.out]; exact Bool.false_ne_true)]; exact rfl)⟩
    · have hltz : ¬ (i : Int) < (j : Int) := by omega
      have hs_ : Aside (i = sy_bs (fun h => ltOf cf d[h]! d[a]!) m b) := (by show _ = _; rw [← HO.out, sy_bs_ge _ i j hlt] : i = sy_bs (fun h => ltOf cf d[h]! d[a]!) m b)
      have hij2 : i = j := by omega
      subst hij2
      clear hij hlt HO hg1
      go_wp2
      go_loopg [13] (i - 1 - a) (fun g2 v3_ wr2 => ∃ (k : Nat) (dk : Array (Fin (K + 1))), v3_ = .int .i64 k ∧ a ≤ k ∧ k + 1 ≤ i ∧ i - 1 - k ≤ g2 ∧ dk.size = N ∧ Aside (SW sy_int w0 blk off dk wr2) ∧ Hid (sy_up (i - 1 - k) k dk = sy_up (i - 1 - a) a d))
      case atStart => exact ⟨a, d, rfl, by omega, by omega, by omega, hs, S1, rfl⟩
      case round =>
        clear S1
        obtain ⟨k, dk, rfl, hk1, hk2, hg2, hsk, S1, HO⟩ := hrel
        by_cases hlt : k + 1 < i
        · have hltz : (k : Int) < (i : Int) - 1 := by omega
          obtain ⟨iN, hiN⟩ : ∃ q, q = k := ⟨_, rfl⟩
          obtain ⟨jN, hjN⟩ : ∃ q, q = k + 1 := ⟨_, rfl⟩
          have ea : ((k : Int)).toNat = iN := by omega
          have pa : (0 : Int) ≤ (k : Int) := by omega
          have ba : (k : Int) < (N : Int) := by omega
          have ra : IntKind.i64.wrap ((k : Int)) = (k : Int) := by rw [IntKind.wrap_i64]; omega
          have ec : ((k : Int) + 1).toNat = jN := by omega
          have pc : (0 : Int) ≤ (k : Int) + 1 := by omega
          have bc : (k : Int) + 1 < (N : Int) := by omega
          have rc : IntKind.i64.wrap ((k : Int) + 1) = (k : Int) + 1 := by rw [IntKind.wrap_i64]; omega
          obtain ⟨x, hx⟩ : ∃ x, x = dk[k]! := ⟨_, rfl⟩
          obtain ⟨y, hy⟩ : ∃ x, x = dk[k + 1]! := ⟨_, rfl⟩
          have S3 : Aside (SW sy_int w0 blk off (swp dk (k) (k + 1)) ((wr.setCell ⟨blk, off + iN, none⟩ (sy_int y)).setCell ⟨blk, off + jN, none⟩ (sy_int x)).drew) := by rw [hiN, hjN, hx, hy]; exact S1.out.swapped R (k) (k + 1) (by omega) (by omega)
          have ca := S1.out.c1 R (by omega) (k) (by omega)
          have cb' := S1.out.c1 R (by omega) (k + 1) (by omega)
          have fa := S1.out.f1 R (by omega) (k) (by omega)
          have fb := S1.out.f1 R (by omega) (k + 1) (by omega)
          obtain ⟨u, cc⟩ := S1.out.c2 R (by omega) (k) (k + 1) (by omega) (by omega) (sy_int y)
          rw [← hjN, ← hiN] at cc
          rw [← hx, ← hiN] at ca
          rw [← hy, ← hjN] at cb'
          rw [← hiN] at fa
          rw [← hjN] at fb
          clear S1 hx hy hiN hjN
          unfold sy_int at ca cb' cc S3
          go_wp2_with fail
          go_big_region_o
          clear ca cb' cc fa fb
          generalize ((wr.setCell ⟨blk, off + iN, none⟩ (Value.int .i64 (y.val : Int))).setCell ⟨blk, off + jN, none⟩ (Value.int .i64 (x.val : Int))).drew = w3 at S3 ⊢
          clear ea ec
          go_wp2
          go_roundg (i - 1 - (k + 1))
          case measure => omega
          case rel => exact ⟨k + 1, swp dk (k) (k + 1), by go_num, by omega, by omega, Nat.le_refl _, by rw [size_swp]; exact hsk, S3, (show Hid _ from by rw [← HO.out, sy_up_one i k dk hlt]; exact rfl)⟩
        · have hltz : ¬ ((k : Int) < (i : Int) - 1) := by omega
          go_wp2
          refine bodyPost_ret (results_none rfl _ _ _) rfl ?_
          exact ⟨rfl, by rw [sy_merge, if_pos c1, ← hs_.out, ← HO.out, show i - 1 - k = 0 by omega]; exact S1.out⟩
set_option maxHeartbeats 16000000 in
set_option maxRecDepth 1000000 in
theorem hd_symMerge_b {K : Nat} (g : Nat) (cb : Array Value) (cf : Fin (K + 1) → Fin (K + 1) → Int) (blk off cap N : Nat) (d0 : Array (Fin (K + 1))) (w0 : World) (eg : ∀ args w, (callFunc g args).run Try.prog w = .ok (.enter g args) w)
    (hcmp : CmpLays1 Try.prog g cb sy_int cf blk off N w0) (R : Row1 (sy_int (K := K)) w0 blk off d0) (h0 : d0.size = N) (hsz : N < 4611686018427387904) (f : Nat)
    (a m b : Nat) (d : Array (Fin (K + 1))) (w : World) (hf : b - a ≤ f + 1) (ham : a < m) (hmb : m < b) (hbN : b ≤ N) (hs : d.size = N) (S : SW sy_int w0 blk off d w) (c1 : ¬ m - a = 1) (c2 : b - m = 1) :
    Calls Try.prog 77 #[.slice (some ⟨blk, off, none⟩) N cap, .int .i64 a, .int .i64 m, .int .i64 b, .func (.func g) #[] cb] w fun e w' => e = .returned (.tuple #[]) ∧ SW sy_int w0 blk off (sy_merge (ltOf cf) (f + 1) a m b d) w' := by
  have hu39 := Try.underlying39; have mixed : Try.prog.follows Departure.mixedOrders = true := by kernel_rfl
  have HC : Aside _ := hcmp
  clear hcmp
  have S0 : Aside (SW sy_int w0 blk off d w) := S
  clear S
  go_enter Try.func77, Try.ntmps77
  have z1 : ¬ (m : Int) - (a : Int) = 1 := by omega
  have z1b : ((m : Int) - (a : Int) == 1) = false := by rw [beq_eq_false_iff_ne]; exact z1
  have z2 : (b : Int) - (m : Int) = 1 := by omega
  go_wp2
  go_loopg [14, 15] (m - a) (fun g1 v1_ v2_ wr => ∃ (i j : Nat), v1_ = .int .i64 i ∧ v2_ = .int .i64 j ∧ a ≤ i ∧ i ≤ j ∧ j ≤ m ∧ j - i ≤ g1 ∧ Aside (SW sy_int w0 blk off d wr) ∧ Hid (sy_bs (fun h => !ltOf cf d[m]! d[h]!) i j = sy_bs (fun h => !ltOf cf d[m]! d[h]!) a m))
  case atStart => exact ⟨a, m, rfl, rfl, by omega, by omega, by omega, by omega, S0, rfl⟩
  case round =>
    clear S0
    obtain ⟨i, j, rfl, rfl, hi1, hij, hjb, hg1, S1, HO⟩ := hrel
    by_cases hlt : i < j
    · have hltz : (i : Int) < (j : Int) := by omega
      obtain ⟨h, hh⟩ : ∃ q, q = (i + j) / 2 := ⟨_, rfl⟩
      have zh : ((i : Int) + (j : Int)) / 2 = (h : Int) := by omega
      have z0 : 0 ≤ (i : Int) + (j : Int) := by omega
      have zb : (h : Int) < 9223372036854775808 := by omega
      have zw : IntKind.i64.wrap (h : Int) = (h : Int) := by rw [IntKind.wrap_i64]; omega
      have z3 : (i : Int) + (j : Int) < 9223372036854775808 := by omega
      have hhN : h < N := by omega
      have hmh : a ≤ h ∧ i ≤ h ∧ h < j := by omega

      have HH : Aside (h = (i + j) / 2) := hh
      clear hh
      go_wp2_with fail
      obtain ⟨x, hx⟩ : ∃ x, x = d[m]! := ⟨_, rfl⟩
      obtain ⟨y, hy⟩ : ∃ x, x = d[h]! := ⟨_, rfl⟩
      have la := S1.out.cl R (by omega) (m) (by omega)
      have lb := S1.out.cl R (by omega) (h) (by omega)
      obtain ⟨iN, hiN⟩ : ∃ q, q = m := ⟨_, rfl⟩
      obtain ⟨jN, hjN⟩ : ∃ q, q = h := ⟨_, rfl⟩
      rw [← hx, ← hiN] at la
      rw [← hy, ← hjN] at lb
      have hc := S1.out.cmp HC.out hs x y
      have e1 : ((m : Int)).toNat = iN := by omega
      have e2 : ((h : Int)).toNat = jN := by omega
      have p1 : (0 : Int) ≤ (m : Int) := by omega
      have p2 : (0 : Int) ≤ (h : Int) := by omega
      have b1 : (m : Int) < (N : Int) := by omega
      have r1 : IntKind.i64.wrap ((m : Int)) = (m : Int) := by rw [IntKind.wrap_i64]; omega
      have b2 : (h : Int) < (N : Int) := by omega
      unfold sy_int at la lb hc
      have HV : Aside (ltOf cf d[m]! d[h]! = decide (cf x y < 0)) := (by show _ = _; rw [hx, hy]; rfl : ltOf cf d[m]! d[h]! = decide (cf x y < 0))
      clear zh z0 z3 zw hx hy hiN hjN
      go_wp2_with fail
      go_quiet_grown (first | (go_at_fn g; refine Calls.grown_of (hc _ _)))
      have S2 : Aside (SW sy_int w0 blk off d (grow (wr.drewN nq) osq)) := S1.out.grown nq osq
      clear la lb hc S1
      generalize grow (wr.drewN nq) osq = w2 at S2 ⊢
      clear nq osq
      clear e1 e2
      cases hv : decide (cf x y < 0) with
      | true =>
        rw [hv] at HV
        have hv' : cf x y < 0 := of_decide_eq_true hv
        have hv2 : decide (0 ≤ cf x y) = false := decide_eq_false (by omega)
        (try simp only [hv2, Bool.not_true, Bool.not_false])
        clear hv hv' hv2
        go_wp2_with fail
        go_roundg (h - i)
        case measure => omega
        case rel => exact ⟨i, h, rfl, rfl, hi1, by omega, by omega, Nat.le_refl _, S2, (show Hid _ from by rw [← HO.out, sy_bs_lt _ i j hlt, ← HH.out, if_neg (by rw [HV.out]; exact Bool.false_ne_true)]; exact rfl)⟩
      | false =>
        rw [hv] at HV
        have hv' : ¬ cf x y < 0 := of_decide_eq_false hv
        have hv2 : decide (0 ≤ cf x y) = true := decide_eq_true (by omega)
        (try simp only [hv2, Bool.not_true, Bool.not_false])
        clear hv hv' hv2
        go_wp2_with fail
        go_roundg (j - (h + 1))
        case measure => omega
        case rel => exact ⟨h + 1, j, by go_num, rfl, by omega, by omega, hjb, Nat.le_refl _, S2, (show Hid _ from by rw [← HO.out, sy_bs_lt _ i j hlt, ← HH.out, if_pos (by rw [HV.out]; rfl)]; exact rfl)⟩
    · have hltz : ¬ (i : Int) < (j : Int) := by omega
      have hs_ : Aside (i = sy_bs (fun h => !ltOf cf d[m]! d[h]!) a m) := (by show _ = _; rw [← HO.out, sy_bs_ge _ i j hlt] : i = sy_bs (fun h => !ltOf cf d[m]! d[h]!) a m)
      have hij2 : i = j := by omega
      subst hij2
      clear hij hlt HO hg1
      go_wp2
      go_loopg [17] (m - i) (fun g2 v3_ wr2 => ∃ (k : Nat) (dk : Array (Fin (K + 1))), v3_ = .int .i64 k ∧ i ≤ k ∧ k ≤ m ∧ k - i ≤ g2 ∧ dk.size = N ∧ Aside (SW sy_int w0 blk off dk wr2) ∧ Hid (sy_down (k - i) k dk = sy_down (m - i) m d))
      case atStart => exact ⟨m, d, rfl, by omega, by omega, by omega, hs, S1, rfl⟩
      case round =>
        clear S1
        obtain ⟨k, dk, rfl, hk1, hk2, hg2, hsk, S1, HO⟩ := hrel
        by_cases hlt : i < k
        · have hltz : (i : Int) < (k : Int) := by omega
          obtain ⟨iN, hiN⟩ : ∃ q, q = k := ⟨_, rfl⟩
          obtain ⟨jN, hjN⟩ : ∃ q, q = k - 1 := ⟨_, rfl⟩
          have ea : ((k : Int)).toNat = iN := by omega
          have pa : (0 : Int) ≤ (k : Int) := by omega
          have ba : (k : Int) < (N : Int) := by omega
          have ra : IntKind.i64.wrap ((k : Int)) = (k : Int) := by rw [IntKind.wrap_i64]; omega
          have ec : ((k : Int) - 1).toNat = jN := by omega
          have pc : (0 : Int) ≤ (k : Int) - 1 := by omega
          have bc : (k : Int) - 1 < (N : Int) := by omega
          have rc : IntKind.i64.wrap ((k : Int) - 1) = (k : Int) - 1 := by rw [IntKind.wrap_i64]; omega
          obtain ⟨x, hx⟩ : ∃ x, x = dk[k]! := ⟨_, rfl⟩
          obtain ⟨y, hy⟩ : ∃ x, x = dk[k - 1]! := ⟨_, rfl⟩
          have S3 : Aside (SW sy_int w0 blk off (swp dk (k) (k - 1)) ((wr.setCell ⟨blk, off + iN, none⟩ (sy_int y)).setCell ⟨blk, off + jN, none⟩ (sy_int x)).drew) := by rw [hiN, hjN, hx, hy]; exact S1.out.swapped R (k) (k - 1) (by omega) (by omega)
          have ca := S1.out.c1 R (by omega) (k) (by omega)
          have cb' := S1.out.c1 R (by omega) (k - 1) (by omega)
          have fa := S1.out.f1 R (by omega) (k) (by omega)
          have fb := S1.out.f1 R (by omega) (k - 1) (by omega)
          obtain ⟨u, cc⟩ := S1.out.c2 R (by omega) (k) (k - 1) (by omega) (by omega) (sy_int y)
          rw [← hjN, ← hiN] at cc
          rw [← hx, ← hiN] at ca
          rw [← hy, ← hjN] at cb'
          rw [← hiN] at fa
          rw [← hjN] at fb
          clear S1 hx hy hiN hjN
          unfold sy_int at ca cb' cc S3
          go_wp2_with fail
          go_big_region_o
          clear ca cb' cc fa fb
          generalize ((wr.setCell ⟨blk, off + iN, none⟩ (Value.int .i64 (y.val : Int))).setCell ⟨blk, off + jN, none⟩ (Value.int .i64 (x.val : Int))).drew = w3 at S3 ⊢
          clear ea ec
          go_wp2
          go_roundg ((k - 1) - i)
          case measure => omega
          case rel => exact ⟨k - 1, swp dk (k) (k - 1), by go_num, by omega, by omega, Nat.le_refl _, by rw [size_swp]; exact hsk, S3, (show Hid _ from by rw [← HO.out, sy_down_one i k dk hlt]; exact rfl)⟩
        · have hltz : ¬ ((i : Int) < (k : Int)) := by omega
          go_wp2
          refine bodyPost_ret (results_none rfl _ _ _) rfl ?_
          exact ⟨rfl, by rw [sy_merge, if_neg c1, if_pos c2, ← hs_.out, ← HO.out, show k - i = 0 by omega]; exact S1.out⟩
end Go.Proofs.Ytoalolbifakpiaa.P

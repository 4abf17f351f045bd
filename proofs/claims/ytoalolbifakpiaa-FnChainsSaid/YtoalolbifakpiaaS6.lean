/- slices.stableCmpFunc and slices.SortStableFunc on []int, at 40 elements at most: contracts by hand. -/
import Derived.Test.YtoalolbifakpiaaS4
import Derived.Test.YtoalolbifakpiaaS5
namespace Go.Proofs.Ytoalolbifakpiaa.P
open Go.Proofs Go.Shelf Go.RowKit Go.Lib Go.Sort
set_option linter.unusedVariables false
set_option linter.unusedSimpArgs false

def sy_blk {α : Type} [Inhabited α] (lt : α → α → Bool) (N : Nat) : Nat → Nat → Array α → Array α
  | 0, a, d => Sort.insertionSort lt d a N
  | f + 1, a, d => if a + 20 ≤ N then sy_blk lt N f (a + 20) (Sort.insertionSort lt d a (a + 20)) else Sort.insertionSort lt d a N
theorem sy_blk_go {α : Type} [Inhabited α] (lt : α → α → Bool) (N f a b : Nat) (d : Array α) (h : b ≤ N) (h1 : a + 20 ≤ b) (h2 : b ≤ a + 20) (hf : 1 ≤ f) : sy_blk lt N f a d = sy_blk lt N (f - 1) b (Sort.insertionSort lt d a b) := by
  obtain ⟨k, rfl⟩ : ∃ k, f = k + 1 := ⟨f - 1, by omega⟩
  have e : b = a + 20 := by omega
  subst e
  rw [sy_blk, if_pos h]
  rfl
theorem sy_blk_stop {α : Type} [Inhabited α] (lt : α → α → Bool) (N f a b : Nat) (d : Array α) (h : ¬ b ≤ N) (h2 : b ≤ a + 20) : sy_blk lt N f a d = Sort.insertionSort lt d a N := by
  cases f with
  | zero => rfl
  | succ k => rw [sy_blk, if_neg (by omega)]
def sy_stable {α : Type} [Inhabited α] (lt : α → α → Bool) (N : Nat) (d : Array α) : Array α := if 20 < N then sy_merge lt N 0 20 N (sy_blk lt N 3 0 d) else sy_blk lt N 3 0 d
theorem sy_inner_size {α : Type} [Inhabited α] (lt : α → α → Bool) (a : Nat) : ∀ (j : Nat) (d : Array α), (insInner lt a j d).size = d.size
  | 0, d => by unfold insInner; rfl
  | j + 1, d => by
    unfold insInner
    split
    · rw [sy_inner_size lt a j, size_swp]
    · rfl
theorem sy_outer_size {α : Type} [Inhabited α] (lt : α → α → Bool) (a b : Nat) : ∀ (n i : Nat) (d : Array α), b - i ≤ n → (insOuter lt a b i d).size = d.size
  | 0, i, d, h => by rw [insOuter, if_neg (by omega)]
  | n + 1, i, d, h => by
    rw [insOuter]
    split
    · rw [sy_outer_size lt a b n (i + 1) _ (by omega), sy_inner_size]
    · rfl
theorem sy_ins_size {α : Type} [Inhabited α] (lt : α → α → Bool) (d : Array α) (a b : Nat) : (Sort.insertionSort lt d a b).size = d.size := sy_outer_size lt a b _ _ d (Nat.le_refl _)
set_option maxHeartbeats 16000000 in
set_option maxRecDepth 1000000 in
theorem hd_stable {K : Nat} (g : Nat) (cb : Array Value) (cf : Fin (K + 1) → Fin (K + 1) → Int) (blk off cap N : Nat) (d0 d : Array (Fin (K + 1))) (w0 w : World) (eg : ∀ args w, (callFunc g args).run Try.prog w = .ok (.enter g args) w)
    (hcmp : CmpLays1 Try.prog g cb sy_int cf blk off N w0) (R : Row1 (sy_int (K := K)) w0 blk off d0) (h0 : d0.size = N) (h40 : N ≤ 40) (hs : d.size = N) (S : SW sy_int w0 blk off d w) :
    Calls Try.prog 74 #[.slice (some ⟨blk, off, none⟩) N cap, .int .i64 N, .func (.func g) #[] cb] w fun e w' => e = .returned (.tuple #[]) ∧ SW sy_int w0 blk off (sy_stable (ltOf cf) N d) w' := by
  have hu39 := Try.underlying39; have mixed : Try.prog.follows Departure.mixedOrders = true := by kernel_rfl
  have hsz : N < 4611686018427387904 := by omega
  have HC : Aside _ := hcmp
  clear hcmp
  have S0 : Aside (SW sy_int w0 blk off d w) := S
  clear S
  go_enter Try.func74, Try.ntmps74
  go_wp2
  go_loopg [7, 8] 3 (fun g1 v7 v8 wr => ∃ (a b : Nat) (dk : Array (Fin (K + 1))), v7 = .int .i64 a ∧ v8 = .int .i64 b ∧ a + 20 ≤ b ∧ b ≤ a + 20 ∧ a ≤ N ∧ 60 ≤ a + 20 * g1 ∧ dk.size = N ∧ Aside (SW sy_int w0 blk off dk wr) ∧ Hid (sy_blk (ltOf cf) N g1 a dk = sy_blk (ltOf cf) N 3 0 d))
  case atStart => exact ⟨0, 20, d, by go_num, by go_num, by omega, by omega, by omega, by omega, hs, S0, rfl⟩
  case round =>
    clear S0
    obtain ⟨a, b, dk, rfl, rfl, hab1, hab2, haN, hfu, hsk, S1, HO⟩ := hrel
    by_cases hlt : b ≤ N
    · have hltz : (b : Int) ≤ (N : Int) := by omega
      go_wp2_with (go_at_call 76; refine (hd_insertion' g cb cf blk off cap a b N d0 dk w0 wr eg HC.out R h0 hsk S1.out (by omega) hlt hsz).mono ?_; rintro e_ w2 ⟨rfl, S2⟩; have SA : Aside _ := S2; clear S1 S2)
      go_roundg (gk - 1)
      case measure => omega
      case rel => exact ⟨b, b + 20, _, rfl, by go_num, by omega, by omega, hlt, by omega, by rw [sy_ins_size]; exact hsk, SA, (show Hid _ from by rw [← HO.out, sy_blk_go _ N gk a b dk hlt hab1 hab2 (by omega)]; exact rfl)⟩
    · have hltz : ¬ (b : Int) ≤ (N : Int) := by omega
      have HB : Aside (Sort.insertionSort (ltOf cf) dk a N = sy_blk (ltOf cf) N 3 0 d) := (by show _ = _; rw [← HO.out, sy_blk_stop _ N gk a b dk hlt hab2] : Sort.insertionSort (ltOf cf) dk a N = sy_blk (ltOf cf) N 3 0 d)
      go_wp2_with (go_at_call 76; refine (hd_insertion' g cb cf blk off cap a N N d0 dk w0 wr eg HC.out R h0 hsk S1.out haN (Nat.le_refl _) hsz).mono ?_; rintro e_ w2 ⟨rfl, S2⟩; rw [HB.out] at S2; have SA : Aside _ := S2; clear S1 S2)
      have hs1 : (sy_blk (ltOf cf) N 3 0 d).size = N := by rw [← HB.out, sy_ins_size]; exact hsk
      obtain ⟨d1, hd1⟩ : ∃ q, q = sy_blk (ltOf cf) N 3 0 d := ⟨_, rfl⟩
      rw [← hd1] at hs1 SA
      have HD : Aside (d1 = sy_blk (ltOf cf) N 3 0 d) := hd1
      clear hd1 HB HO
      go_loopg [6] 2 (fun g2 v6 wr2 => ∃ (s : Nat) (dk : Array (Fin (K + 1))), v6 = .int .i64 s ∧ dk.size = N ∧ Aside ((s = 20 ∧ 2 ≤ g2 ∧ dk = d1) ∨ (s = 40 ∧ 20 < N ∧ dk = sy_merge (ltOf cf) N 0 20 N d1)) ∧ Aside (SW sy_int w0 blk off dk wr2))
      case atStart => exact ⟨20, d1, by go_num, hs1, Or.inl ⟨rfl, by omega, rfl⟩, SA⟩
      case round =>
        clear SA
        obtain ⟨s, dq, rfl, hsq, HW, S1⟩ := hrel
        rcases HW.out with ⟨rfl, hg2, hdq⟩ | ⟨rfl, h20, hdq⟩
        · subst hdq
          by_cases h20 : 20 < N
          · have hz : (20 : Int) < (N : Int) := by omega
            go_wp2
            go_loopg [7, 8] 2 (fun g3 v7 v8 wr3 => ∃ (a b : Nat) (dk : Array (Fin (K + 1))), v7 = .int .i64 a ∧ v8 = .int .i64 b ∧ dk.size = N ∧ Aside ((a = 0 ∧ b = 40 ∧ 2 ≤ g3 ∧ dk = dq) ∨ (a = 40 ∧ b = 80 ∧ N = 40 ∧ dk = sy_merge (ltOf cf) N 0 20 N dq)) ∧ Aside (SW sy_int w0 blk off dk wr3))
            case atStart => exact ⟨0, 40, dq, by go_num, by go_num, hsq, Or.inl ⟨rfl, rfl, by omega, rfl⟩, S1⟩
            case round =>
              clear S1
              obtain ⟨a, b, dk, rfl, rfl, hsk, HX, S1⟩ := hrel
              rcases HX.out with ⟨rfl, rfl, hg3, hdk⟩ | ⟨rfl, rfl, hN, hdk⟩
              · subst hdk
                by_cases h4 : 40 ≤ N
                · have hz4 : (40 : Int) ≤ (N : Int) := by omega
                  have HN : Aside (N = 40) := (by show _ = _; omega : N = 40)
                  go_wp2_with (go_at_call 77; refine (hd_symMerge g cb cf blk off cap N d0 w0 eg HC.out R h0 hsz N 0 20 40 dk wr (by omega) (by omega) (by omega) (by omega) hsk S1.out).mono ?_; rintro e_ w2 ⟨rfl, S2⟩; have SA : Aside _ := S2; clear S1 S2)
                  go_roundg 1
                  case measure => omega
                  case rel => exact ⟨40, 80, _, by go_num, by go_num, by rw [sy_merge_size]; exact hsk, Or.inr ⟨rfl, rfl, HN.out, by rw [HN.out]⟩, SA⟩
                · have hz4 : ¬ (40 : Int) ≤ (N : Int) := by omega
                  go_wp2_with (go_at_call 77; refine (hd_symMerge g cb cf blk off cap N d0 w0 eg HC.out R h0 hsz N 0 20 N dk wr (by omega) (by omega) (by omega) (by omega) hsk S1.out).mono ?_; rintro e_ w2 ⟨rfl, S2⟩; have SA : Aside _ := S2; clear S1 S2)
                  go_roundg 1
                  case measure => omega
                  case rel => exact ⟨40, _, by go_num, by rw [sy_merge_size]; exact hsk, Or.inr ⟨rfl, h20, rfl⟩, SA⟩
              · have hz4 : ¬ (80 : Int) ≤ (N : Int) := by omega
                have hz5 : ¬ (60 : Int) < (N : Int) := by omega
                clear hN
                go_wp2
                go_roundg 1
                case measure => omega
                case rel => exact ⟨40, dk, by go_num, hsk, Or.inr ⟨rfl, h20, hdk⟩, S1⟩
          · have hz : ¬ (20 : Int) < (N : Int) := by omega
            go_wp2
            go_end0
            exact ⟨rfl, by rw [sy_stable, if_neg h20, ← HD.out]; exact S1.out⟩
        · have hz : ¬ (40 : Int) < (N : Int) := by omega
          go_wp2
          go_end0
          exact ⟨rfl, by rw [sy_stable, if_pos h20, ← HD.out, ← hdq]; exact S1.out⟩
set_option maxRecDepth 100000 in
theorem hd_sortStable {K : Nat} (g : Nat) (cb : Array Value) (cf : Fin (K + 1) → Fin (K + 1) → Int) (blk off cap N : Nat) (d0 d : Array (Fin (K + 1))) (w0 w : World) (eg : ∀ args w, (callFunc g args).run Try.prog w = .ok (.enter g args) w)
    (hcmp : CmpLays1 Try.prog g cb sy_int cf blk off N w0) (R : Row1 (sy_int (K := K)) w0 blk off d0) (h0 : d0.size = N) (h40 : N ≤ 40) (hs : d.size = N) (S : SW sy_int w0 blk off d w) :
    Calls Try.prog 70 #[.slice (some ⟨blk, off, none⟩) N cap, .func (.func g) #[] cb] w fun e w' => e = .returned (.tuple #[]) ∧ SW sy_int w0 blk off (sy_stable (ltOf cf) N d) w' := by
  have hu39 := Try.underlying39
  have HC : Aside _ := hcmp
  clear hcmp
  have S0 : Aside (SW sy_int w0 blk off d w) := S
  clear S
  go_enter Try.func70, Try.ntmps70
  go_wp2_with (go_at_call 74; refine (hd_stable g cb cf blk off cap N d0 d w0 w eg HC.out R h0 h40 hs S0.out).mono ?_; rintro e_ w2 ⟨rfl, S2⟩; have SA : Aside _ := S2; clear S0 S2)
  go_end0
  exact ⟨rfl, SA.out⟩
end Go.Proofs.Ytoalolbifakpiaa.P

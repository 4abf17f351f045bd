/- slices.rotateCmpFunc on []int: a contract by hand. -/
import Derived.Test.YtoalolbifakpiaaS1
namespace Go.Proofs.Ytoalolbifakpiaa.P
open Go.Proofs Go.Shelf Go.RowKit Go.Lib Go.Sort
set_option linter.unusedVariables false
set_option linter.unusedSimpArgs false

set_option maxHeartbeats 16000000 in
set_option maxRecDepth 1000000 in
theorem hd_rotate {K : Nat} (g : Nat) (cb : Array Value) (blk off cap a m b F : Nat) (d0 d : Array (Fin (K + 1))) (w0 w : World) (R : Row1 (sy_int (K := K)) w0 blk off d0) (hs : d0.size = d.size) (S : SW sy_int w0 blk off d w)
    (h1 : a < m) (h2 : m < b) (h3 : b ≤ d.size) (hF : b - a ≤ F) (hsz : d.size < 4611686018427387904) :
    Calls Try.prog 78 #[.slice (some ⟨blk, off, none⟩) d.size cap, .int .i64 a, .int .i64 m, .int .i64 b, .func (.func g) #[] cb] w fun e w' => e = .returned (.tuple #[]) ∧ SW sy_int w0 blk off (sy_rot m F (m - a) (b - m) d) w' := by
  have hu39 := Try.underlying39; have mixed : Try.prog.follows Departure.mixedOrders = true := by kernel_rfl
  have S0 : Aside (SW sy_int w0 blk off d w) := S
  clear S
  go_enter Try.func78, Try.ntmps78
  go_wp2
  go_loopg [10, 11] F (fun g1 v10 v11 wr => ∃ (f i j : Nat) (dk : Array (Fin (K + 1))), v10 = .int .i64 i ∧ v11 = .int .i64 j ∧ i + j ≤ f ∧ f ≤ g1 ∧ 1 ≤ i ∧ 1 ≤ j ∧ a + i ≤ m ∧ m + j ≤ b ∧ dk.size = d.size ∧ Aside (SW sy_int w0 blk off dk wr) ∧ Hid (sy_rot m f i j dk = sy_rot m F (m - a) (b - m) d))
  case atStart => exact ⟨F, m - a, b - m, d, by go_num, by go_num, by omega, by omega, by omega, by omega, by omega, by omega, rfl, S0, rfl⟩
  case round =>
    clear S0
    obtain ⟨f, i, j, dk, rfl, rfl, hf, hg1, hi1, hj1, hai, hbj, hsk, S1, HO⟩ := hrel
    obtain ⟨f', hf'⟩ : ∃ q, f = q + 1 := ⟨f - 1, by omega⟩
    subst hf'
    have zp : (m : Int) - (i : Int) = ((m - i : Nat) : Int) := by omega
    by_cases he : i = j
    · subst he
      go_wp2_with (first | (go_at_call 79; refine (hd_swapRange' g cb blk off cap (m - i) m i d.size d0 dk w0 wr R (by omega) hsk S1.out (by omega) (by omega) (by omega)).mono ?_; rintro e w2 ⟨rfl, S2⟩))
      go_end0
      exact ⟨rfl, by rw [← HO.out, sy_rot, if_pos rfl]; exact S2⟩
    · have hez : ¬ (i : Int) = (j : Int) := by omega
      by_cases hgt : j < i
      · have hgz : (j : Int) < (i : Int) := by omega
        go_wp2_with (first | (go_at_call 79; refine (hd_swapRange' g cb blk off cap (m - i) m j d.size d0 dk w0 wr R (by omega) hsk S1.out (by omega) (by omega) (by omega)).mono ?_; rintro e w2 ⟨rfl, S2⟩; have SA : Aside _ := S2; clear S1 S2))
        go_roundg f'
        case measure => omega
        case rel => exact ⟨f', i - j, j, _, by go_num, rfl, by omega, Nat.le_refl _, by omega, hj1, by omega, hbj, by rw [sy_swr_size]; exact hsk, SA, (show Hid _ from by rw [← HO.out, sy_rot, if_neg he, if_pos hgt]; exact rfl)⟩
      · have hgz : ¬ (j : Int) < (i : Int) := by omega
        have zq : (m : Int) + (j : Int) - (i : Int) = ((m + j - i : Nat) : Int) := by omega
        go_wp2_with (first | (go_at_call 79; refine (hd_swapRange' g cb blk off cap (m - i) (m + j - i) i d.size d0 dk w0 wr R (by omega) hsk S1.out (by omega) (by omega) (by omega)).mono ?_; rintro e w2 ⟨rfl, S2⟩; have SA : Aside _ := S2; clear S1 S2))
        go_roundg f'
        case measure => omega
        case rel => exact ⟨f', i, j - i, _, rfl, by go_num, by omega, Nat.le_refl _, hi1, by omega, hai, by omega, by rw [sy_swr_size]; exact hsk, SA, (show Hid _ from by rw [← HO.out, sy_rot, if_neg he, if_neg (show ¬ i > j by omega)]; exact rfl)⟩
theorem hd_rotate' {K : Nat} (g : Nat) (cb : Array Value) (blk off cap a m b F N : Nat) (d0 d : Array (Fin (K + 1))) (w0 w : World) (R : Row1 (sy_int (K := K)) w0 blk off d0) (hs : d0.size = d.size) (hN : d.size = N) (S : SW sy_int w0 blk off d w)
    (h1 : a < m) (h2 : m < b) (h3 : b ≤ d.size) (hF : b - a ≤ F) (hsz : d.size < 4611686018427387904) :
    Calls Try.prog 78 #[.slice (some ⟨blk, off, none⟩) N cap, .int .i64 a, .int .i64 m, .int .i64 b, .func (.func g) #[] cb] w fun e w' => e = .returned (.tuple #[]) ∧ SW sy_int w0 blk off (sy_rot m F (m - a) (b - m) d) w' := by
  subst hN
  exact hd_rotate g cb blk off cap a m b F d0 d w0 w R hs S h1 h2 h3 hF hsz
end Go.Proofs.Ytoalolbifakpiaa.P

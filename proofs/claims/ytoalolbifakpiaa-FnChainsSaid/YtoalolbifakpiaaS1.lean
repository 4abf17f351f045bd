/- slices.swapRangeCmpFunc on []int: a contract by hand, from a world of the sort's to a world of the sort's. -/
import Derived.Test.YtoalolbifakpiaaProg
import Derived.Test.YtoalolbifakpiaaY1
import Derived.Shelf.SlSortCmp.Kit1
import Derived.Sort.WalkA
import Derived.Sort.WalkC
import Derived.Deep.LoopGhost
namespace Go.Proofs.Ytoalolbifakpiaa.P
open Go.Proofs Go.Shelf Go.RowKit Go.Lib Go.Sort
set_option linter.unusedVariables false
set_option linter.unusedSimpArgs false

def sy_int {K : Nat} (x : Fin (K + 1)) : Value := .int .i64 (x.val : Int)
theorem sy_hO {K : Nat} : OneCell (sy_int (K := K)) := fun x => rfl
theorem sy_swr_one {K : Nat} (a b n i : Nat) (d : Array (Fin (K + 1))) (h : i < n) : sy_swr a b (n - i) i d = sy_swr a b (n - (i + 1)) (i + 1) (swp d (a + i) (b + i)) := by
  obtain ⟨k, hk⟩ : ∃ k, n - i = k + 1 := ⟨n - i - 1, by omega⟩
  rw [hk, show n - (i + 1) = k by omega]
  rfl
set_option maxHeartbeats 16000000 in
set_option maxRecDepth 1000000 in
theorem hd_swapRange {K : Nat} (g : Nat) (cb : Array Value) (blk off cap a b n : Nat) (d0 d : Array (Fin (K + 1))) (w0 w : World) (R : Row1 (sy_int (K := K)) w0 blk off d0) (hs : d0.size = d.size) (S : SW sy_int w0 blk off d w)
    (h1 : a + n ≤ d.size) (h2 : b + n ≤ d.size) (hsz : d.size < 4611686018427387904) :
    Calls Try.prog 79 #[.slice (some ⟨blk, off, none⟩) d.size cap, .int .i64 a, .int .i64 b, .int .i64 n, .func (.func g) #[] cb] w fun e w' => e = .returned (.tuple #[]) ∧ SW sy_int w0 blk off (sy_swr a b n 0 d) w' := by
  have hu39 := Try.underlying39; have mixed : Try.prog.follows Departure.mixedOrders = true := by kernel_rfl
  have S0 : Aside (SW sy_int w0 blk off d w) := S
  clear S
  go_enter Try.func79, Try.ntmps79
  go_wp2
  go_loopg [10] n (fun g1 vi wr => ∃ (i : Nat) (dk : Array (Fin (K + 1))), vi = .int .i64 i ∧ i ≤ n ∧ n - i ≤ g1 ∧ dk.size = d.size ∧ Aside (SW sy_int w0 blk off dk wr) ∧ Hid (sy_swr a b (n - i) i dk = sy_swr a b n 0 d))
  case atStart => exact ⟨0, d, by go_num, by omega, by omega, rfl, S0, rfl⟩
  case round =>
    clear S0
    obtain ⟨i, dk, rfl, hin, hg1, hsk, S1, HO⟩ := hrel
    by_cases hlt : i < n
    · have hltz : (i : Int) < (n : Int) := by omega
      have hltd : decide ((i : Int) < (n : Int)) = true := decide_eq_true hltz
      obtain ⟨iN, hiN⟩ : ∃ q, q = a + i := ⟨_, rfl⟩
      obtain ⟨jN, hjN⟩ : ∃ q, q = b + i := ⟨_, rfl⟩
      have ea : ((a : Int) + (i : Int)).toNat = iN := by omega
      have pa : (0 : Int) ≤ (a : Int) + (i : Int) := by omega
      have ba : (a : Int) + (i : Int) < (d.size : Int) := by omega
      have ra : IntKind.i64.wrap ((a : Int) + (i : Int)) = (a : Int) + (i : Int) := by rw [IntKind.wrap_i64]; omega
      have ec : ((b : Int) + (i : Int)).toNat = jN := by omega
      have pc : (0 : Int) ≤ (b : Int) + (i : Int) := by omega
      have bc : (b : Int) + (i : Int) < (d.size : Int) := by omega
      have rc : IntKind.i64.wrap ((b : Int) + (i : Int)) = (b : Int) + (i : Int) := by rw [IntKind.wrap_i64]; omega
      obtain ⟨x, hx⟩ : ∃ x, x = dk[a + i]! := ⟨_, rfl⟩
      obtain ⟨y, hy⟩ : ∃ x, x = dk[b + i]! := ⟨_, rfl⟩
      have S3 : Aside (SW sy_int w0 blk off (swp dk (a + i) (b + i)) ((wr.setCell ⟨blk, off + iN, none⟩ (sy_int y)).setCell ⟨blk, off + jN, none⟩ (sy_int x)).drew) := by rw [hiN, hjN, hx, hy]; exact S1.out.swapped R (a + i) (b + i) (by omega) (by omega)
      have ca := S1.out.c1 R (by omega) (a + i) (by omega)
      have cb' := S1.out.c1 R (by omega) (b + i) (by omega)
      have fa := S1.out.f1 R (by omega) (a + i) (by omega)
      have fb := S1.out.f1 R (by omega) (b + i) (by omega)
      obtain ⟨u, cc⟩ := S1.out.c2 R (by omega) (a + i) (b + i) (by omega) (by omega) (sy_int y)
      rw [← hjN, ← hiN] at cc
      rw [← hx, ← hiN] at ca
      rw [← hy, ← hjN] at cb'
      rw [← hiN] at fa
      rw [← hjN] at fb
      clear S1 hx hy hiN hjN
      unfold sy_int at ca cb' cc
      go_wp2_with fail
      go_big_region_o
      clear ca cb' cc fa fb
      have S3 := S3
      unfold sy_int at S3
      generalize ((wr.setCell ⟨blk, off + iN, none⟩ (Value.int .i64 (y.val : Int))).setCell ⟨blk, off + jN, none⟩ (Value.int .i64 (x.val : Int))).drew = w3 at S3 ⊢
      clear ea ec
      go_wp2
      go_roundg (n - (i + 1))
      case measure => omega
      case rel => exact ⟨i + 1, swp dk (a + i) (b + i), by go_num, by omega, Nat.le_refl _, by rw [size_swp]; exact hsk, S3, (show Hid _ from by rw [← HO.out, sy_swr_one a b n i dk hlt]; exact rfl)⟩
    · have hltz : ¬ (i : Int) < (n : Int) := by omega
      have e : n - i = 0 := by omega
      rw [e] at HO
      go_wp2
      go_end0
      exact ⟨rfl, by rw [← HO.out]; exact S1.out⟩
theorem hd_swapRange' {K : Nat} (g : Nat) (cb : Array Value) (blk off cap a b n : Nat) (N : Nat) (d0 d : Array (Fin (K + 1))) (w0 w : World) (R : Row1 (sy_int (K := K)) w0 blk off d0) (hs : d0.size = d.size) (hN : d.size = N) (S : SW sy_int w0 blk off d w)
    (h1 : a + n ≤ d.size) (h2 : b + n ≤ d.size) (hsz : d.size < 4611686018427387904) :
    Calls Try.prog 79 #[.slice (some ⟨blk, off, none⟩) N cap, .int .i64 a, .int .i64 b, .int .i64 n, .func (.func g) #[] cb] w fun e w' => e = .returned (.tuple #[]) ∧ SW sy_int w0 blk off (sy_swr a b n 0 d) w' := by
  subst hN
  exact hd_swapRange g cb blk off cap a b n d0 d w0 w R hs S h1 h2 hsz
end Go.Proofs.Ytoalolbifakpiaa.P

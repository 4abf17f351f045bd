/- The closure that byDep hands to the sort: a contract by hand. -/
import Derived.Test.YtoalolbifakpiaaS7
import Derived.Test.YtoalolbifakpiaaPx0
namespace Go.Proofs.Ytoalolbifakpiaa.P
open Go.Proofs Go.Shelf Go.RowKit Go.Lib Go.Sort Go.Proofs.YtoalolbifakpiaaW.PrintWords
set_option linter.unusedVariables false
set_option linter.unusedSimpArgs false

theorem sy_keep {W : World} {a : Addr} {v : Value} (h : W.cell? a = some v) (n : Nat) (os : Array Obj) : (grow (W.drewN n) os).cell? a = some v := by
  rw [cell?_grow (W.drewN n) os a (World.block_lt_of_cell? W _ h)]
  exact h
theorem sy_run72 (x y : Int) (W : World) (n : Nat) (os : Array Obj) : Calls Try.prog 72 #[.int .i64 x, .int .i64 y] (grow (W.drewN n) os) fun e w' => e = .returned (.int .i64 (sy_cmp x y)) ∧ ∃ q os', w' = grow ((grow (W.drewN n) os).drewN q) os' :=
  (hd_compare x y _).mono fun _ _ ⟨he, hw⟩ => ⟨he, 0, #[], by rw [hw, grow_empty]; rfl⟩
set_option maxHeartbeats 16000000 in
set_option maxRecDepth 1000000 in
theorem hd_cmpDep (bx : Nat) (A : Option Addr) (c : Nat) (l : List S25) (x y : Nat) (W : World) (hbx : W.cell? ⟨bx, 0, none⟩ = some (.slice A l.length c)) (hC : Kd.C k25 W A l.length l) (hx : x < l.length) (hy : y < l.length) :
    Calls Try.prog 71 #[.int .i64 x, .int .i64 y, .pointer (some ⟨bx, 0, none⟩)] W fun e w' => e = .returned (.int .i64 (sy_cmp (rd_T25 l x).f2 (rd_T25 l y).f2)) ∧ ∃ q os', w' = grow (W.drewN q) os' := by
  have hu31 := Try.underlying31; have hu25 := Try.underlying25; have mixed : Try.prog.follows Departure.mixedOrders = true := by kernel_rfl
  obtain ⟨ad, rfl, x0, x1, x2, x3, x4⟩ := at_T25 hC x (by omega) (by omega)
  obtain ⟨ad', e, y0, y1, y2, y3, y4⟩ := at_T25 hC y (by omega) (by omega)
  cases e
  rw [Int.toNat_natCast] at x2 y2
  have kb := fun n os => sy_keep hbx n os
  have kx := fun n os => sy_keep x2 n os
  have ky := fun n os => sy_keep y2 n os
  clear x0 x1 x2 x3 x4 y0 y1 y2 y3 y4 hbx hC
  have px : (0 : Int) ≤ (x : Int) := by omega
  have py : (0 : Int) ≤ (y : Int) := by omega
  have qx : (x : Int) < (l.length : Int) := by omega
  have qy : (y : Int) < (l.length : Int) := by omega
  have hc := sy_run72 (rd_T25 l x).f2 (rd_T25 l y).f2 W
  go_enter Try.func71, Try.ntmps71
  go_wp2_with fail
  go_quiet_grown (first | (go_at_call 72; refine Calls.grown_of (hc _ _)))
  go_wp2
  go_ret
  exact ⟨rfl, _, _, rfl⟩
end Go.Proofs.Ytoalolbifakpiaa.P

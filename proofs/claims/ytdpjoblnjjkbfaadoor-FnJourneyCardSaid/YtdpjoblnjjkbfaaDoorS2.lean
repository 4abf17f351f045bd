/- strconv.Itoa where the library's table of powers is in place: the fact that the table lies as it should goes along a chain of calls. -/
import Derived.Test.YtdpjoblnjjkbfaaDoorS1
import Derived.Lib.ItoaMem
import Derived.Lib.AppendIntMem
namespace Go.Proofs.YtdpjoblnjjkbfaaDoor.P
open Go.RowKit Go.Sort Go.Lib

/-- The table of powers of ten lies as the program's text lays it. -/
def Tb (w : World) : Prop := Lib.TabIs Tryd.prog w "internal/strconv.uint64pow10" .u64 Lib.pow10Tab
theorem tb_on {w w' : World} (h : Tb w) (hb : Below w.heap.size w w') : Tb w' := Lib.tabBelow_of_tabIs h w' hb
theorem hd_Itoa (u : Nat) (h : u < 1000000) (w : World) (hT : Tb w) :
    Calls Tryd.prog 63 #[.int .i64 u] w fun e w' => e = .returned (.string ⟨(Lib.decDigits u).toArray⟩) ∧ Below w.heap.size w w' := by
  refine (Tryd.strconv_Itoa u (by omega) (by omega) w hT).mono ?_
  rintro e w' ⟨rfl, k, os, rfl⟩
  exact ⟨by rw [Lib.itoa_nonneg], below_grow _ w (Nat.le_refl _) k os⟩
end Go.Proofs.YtdpjoblnjjkbfaaDoor.P

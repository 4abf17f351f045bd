/- Contracts of the functions of the program, each one with its plain Lean function; written by a program of the session out of the translation. -/
import Derived.Test.YtnojpcmaalbdhaaDoorS2
import Derived.Test.YtnojpcmaalbdhaaDoorPx0
namespace Go.Proofs.YtnojpcmaalbdhaaDoor.P
open Go.RowKit Go.Proofs.YtnojpcmaalbdhaaDoorW.PrintWords Go.Proofs.YtnojpcmaalbdhaaDoorW.PrintLast Go.Proofs.YtnojpcmaalbdhaaDoorW.PrintMore
attribute [local go_sem] max2_int min2_int max_two min_two max_three min_three max_four min_four   -- for this text's walks alone
set_option linter.unusedVariables false
set_option linter.unusedSimpArgs false

-- NOT PRINTED: function 69 (utf8_RuneCountInString)

-- NOT PRINTED: function 78 (utf8_decodeRuneInStringSlow)

-- NOT PRINTED: function 70 (utf8_DecodeRuneInString)

-- NOT PRINTED: function 59 (strings_explode)

-- NOT PRINTED: function 85 (bytealg_IndexByteString)

-- NOT PRINTED: function 79 (stringslite_IndexByte)

-- NOT PRINTED: function 80 (bytealg_IndexString)

-- NOT PRINTED: function 81 (bytealg_Cutover)

-- NOT PRINTED: function 86 (bytealg_hashStr_string)

-- NOT PRINTED: function 82 (bytealg_IndexRabinKarp_string)

-- NOT PRINTED: function 72 (stringslite_Index)

-- NOT PRINTED: function 61 (strings_Index)

-- NOT PRINTED: function 71 (bytealg_CountString)

-- NOT PRINTED: function 60 (strings_Count)

-- NOT PRINTED: function 50 (strings_genSplit)

/-! ### strings_Split: function 32, by the shelf -/
theorem strings_Split.calls (a0 : ByteArray) (a1 : ByteArray) (r : List ByteArray) (w : World) (hT : Tb w) (h : strings_Split.f a0 a1 = some r) :
    Calls Tryd.prog 32 #[.string a0, .string a1] w fun e w' => ∃ v0_ : Value, e = .returned (v0_) ∧ Kd.R Kd.string 9 w' w.heap.size (fun _ => True) v0_ r ∧ Below w.heap.size w w' := by
  unfold strings_Split.f at h
  split at h
  · rename_i c
    obtain rfl := Option.some.inj h
    exact hd_Split a0 a1 w hT c.2 c.1
  · simp at h

-- NOT PRINTED: function 62 (stringslite_Cut)

/-! ### strings_Cut: function 51, by the shelf -/
theorem strings_Cut.calls (a0 : ByteArray) (a1 : ByteArray) (r1 : ByteArray) (r2 : ByteArray) (r3 : Bool) (w : World) (hT : Tb w) (h : strings_Cut.f a0 a1 = some (r1, r2, r3)) :
    Calls Tryd.prog 51 #[.string a0, .string a1] w fun e w' => e = .returned (.tuple #[.string r1, .string r2, .bool r3]) ∧ Below w.heap.size w w' := by
  unfold strings_Cut.f at h
  split at h
  · rename_i c
    simp only [Option.some.injEq, Prod.mk.injEq] at h
    obtain ⟨rfl, rfl, rfl⟩ := h
    exact hd_Cut a0 a1 w hT c
  · simp at h

end Go.Proofs.YtnojpcmaalbdhaaDoor.P

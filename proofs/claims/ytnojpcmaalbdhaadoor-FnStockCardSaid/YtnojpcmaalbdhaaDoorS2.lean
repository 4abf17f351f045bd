/- The library's Itoa, Join, Split and Cut at this program, in the words of the printed contracts; the fact that the library's table and its variable lie in place goes along a chain of calls. -/
import Derived.Test.YtnojpcmaalbdhaaDoorS1
import Derived.Test.YtnojpcmaalbdhaaDoorV
import Derived.Lib.ItoaMem
import Derived.Lib.AppendIntMem
import Derived.Lib.SplitLaws
import Derived.Handed
namespace Go.Proofs.YtnojpcmaalbdhaaDoor.P
open Go.RowKit Go.Sort Go.Lib Go.Proofs.YtnojpcmaalbdhaaDoorW.PrintWords Go.Proofs.YtnojpcmaalbdhaaDoorW.PrintLast Go.Proofs.YtnojpcmaalbdhaaDoorW.PrintMore

/-- The table of powers of ten lies as the program's text lays it; the library's variable holds some number. -/
def Tb (w : World) : Prop := Lib.TabIs Tryd.prog w "internal/strconv.uint64pow10" .u64 Lib.pow10Tab ∧ ∃ m, w.cell? ⟨1, 0, none⟩ = some (.int .i64 m)
theorem tb_on {w w' : World} (h : Tb w) (hb : Below w.heap.size w w') : Tb w' := by
  obtain ⟨h1, m, h2⟩ := h
  exact ⟨Lib.tabBelow_of_tabIs h1 w' hb, m, (hb.cell (World.block_lt_of_cell? w _ h2)).trans h2⟩
theorem hd_Itoa (u : Nat) (h : u < 1000000) (w : World) (hT : Tb w) :
    Calls Tryd.prog 27 #[.int .i64 u] w fun e w' => e = .returned (.string ⟨(Lib.decDigits u).toArray⟩) ∧ Below w.heap.size w w' := by
  refine (Tryd.strconv_Itoa u (by omega) (by omega) w hT.1).mono ?_
  rintro e w' ⟨rfl, k, os, rfl⟩
  exact ⟨by rw [Lib.itoa_nonneg], below_grow _ w (Nat.le_refl _) k os⟩
theorem hd_Join (A0 : Option Addr) (c0 : Nat) (l0 : List ByteArray) (sep : ByteArray) (w : World) (hr0 : Kd.string.C w A0 l0.length l0) (hc0 : l0.length ≤ c0) (h1 : 1 ≤ l0.length) (hN : l0.length ≤ 1000)
    (hlen : (Lib.join (l0.map (·.data.toList)) sep.data.toList).length ≤ 1000000) :
    Calls Tryd.prog 28 #[.slice A0 l0.length c0, .string sep] w fun e w' => e = .returned (.string ⟨(Lib.join (l0.map (·.data.toList)) sep.data.toList).toArray⟩) ∧ Below w.heap.size w w' := by
  obtain ⟨ad, rfl, hc⟩ := Kd.at_string hr0 0 (by decide) (by omega)
  have hz : ad.add (0 : Int).toNat = ad := rfl
  rw [hz] at hc
  have hlt := World.block_lt_of_cell? w _ hc
  obtain ⟨bk, o, spot⟩ := ad
  have hsp : spot = none := by
    cases spot with
    | none => rfl
    | some s =>
      unfold World.cell? at hc
      simp at hc
      split at hc <;> simp at hc
  subst hsp
  refine Tryd.strings_Join bk o c0 l0 sep w (fun j x hx => ?_) hlt (by omega) hc0 (by omega)
  obtain ⟨hj, rfl⟩ := List.getElem?_eq_some_iff.1 hx
  obtain ⟨ad', e, hc'⟩ := Kd.at_string hr0 (j : Int) (by omega) (by omega)
  cases e
  have ha : (⟨bk, o, none⟩ : Addr).add (j : Int).toNat = ⟨bk, o + j, none⟩ := by
    rw [Int.toNat_natCast]
    unfold Addr.add
    split
    · rename_i h0; subst h0; rfl
    · rfl
  rw [ha] at hc'
  rw [hc']
  simp [rdOf, List.getElem?_eq_getElem hj]
theorem hd_Split (s sep : ByteArray) (w : World) (hT : Tb w) (hs : s.size ≤ 1000000) (h1 : 1 ≤ sep.size) :
    Calls Tryd.prog 32 #[.string s, .string sep] w fun e w' => ∃ v0_ : Value, e = .returned (v0_) ∧ Kd.R Kd.string 9 w' w.heap.size (fun _ => True) v0_ (Lib.splitB sep 0 (Lib.countB s sep) s) ∧ Below w.heap.size w w' := by
  obtain ⟨_, m, hm⟩ := hT
  refine (Tryd.strings_Split s sep m w (by omega) hm h1).mono ?_
  rintro e w' ⟨rfl, rfl⟩
  have hl := Lib.splitB_all sep h1 0 _ s rfl
  have hle := Lib.countB_le sep h1 s.size s (Nat.le_refl _)
  refine ⟨_, rfl, Kd.R_of_own ?_ (fun _ _ => trivial), (Below.refl _ _).alloc (Nat.le_refl _) _⟩
  rw [hl]
  have h2 := World.ownsRow_lit (base := w.heap.size) (e := 9) (size := 1) w ((Lib.splitB sep 0 (Lib.countB s sep) s).map Value.string).toArray (Lib.countB s sep + 1) (Nat.le_refl _) (by unfold maxLen; omega) (by simp [hl])
  simpa [encs] using h2
theorem hd_Cut (s sep : ByteArray) (w : World) (hT : Tb w) (hs : s.size ≤ 1000000) :
    Calls Tryd.prog 51 #[.string s, .string sep] w fun e w' => e = .returned (.tuple #[.string ⟨(Lib.cut s.data.toList sep.data.toList).1.toArray⟩, .string ⟨(Lib.cut s.data.toList sep.data.toList).2.1.toArray⟩, .bool (Lib.cut s.data.toList sep.data.toList).2.2]) ∧ Below w.heap.size w w' := by
  obtain ⟨_, m, hm⟩ := hT
  refine (Tryd.strings_Cut s sep m w (by omega) hm).mono ?_
  rintro e w' ⟨rfl, n, rfl⟩
  exact ⟨rfl, pw_below_drewN (Below.refl _ _) n⟩
end Go.Proofs.YtnojpcmaalbdhaaDoor.P

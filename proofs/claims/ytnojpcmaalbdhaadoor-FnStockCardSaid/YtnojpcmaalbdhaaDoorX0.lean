/- Numbers as digits: the library's and the reference's. -/
import Derived.Test.YtnojpcmaalbdhaaDoorB
namespace Go.Proofs.YtnojpcmaalbdhaaDoor.Pure
open Go.RowKit Go.Proofs.YtnojpcmaalbdhaaDoor.P Go.Proofs.YtnojpcmaalbdhaaDoorW.PrintWords Go.Proofs.YtnojpcmaalbdhaaDoorW.PrintLast

theorem dec_le (u : Nat) : (Lib.decDigits u).length ≤ u + 1 := by
  induction u using Nat.strongRecOn with
  | _ u ih =>
    rw [Lib.decDigits]
    split
    · simp
    · have := ih (u / 10) (by omega)
      rw [List.length_append, List.length_singleton]; omega
/-- A number as its digits. -/
def dec (u : Nat) : ByteArray := ⟨(Lib.decDigits u).toArray⟩
theorem dec_size (u : Nat) : (dec u).size ≤ u + 1 := by
  have : (dec u).size = (Lib.decDigits u).length := by simp [dec, ByteArray.size]
  rw [this]; exact dec_le u
theorem dec_big {u : Nat} (h : ¬ u < 10) : dec u = dec (u / 10) ++ ⟨#[UInt8.ofNat (48 + u % 10)]⟩ := by
  unfold dec
  rw [Lib.decDigits, dif_neg h]
  apply ByteArray.ext
  rw [ByteArray.data_append]
  simp
theorem dec_small {u : Nat} (h : u < 10) : dec u = ⟨#[UInt8.ofNat (48 + u)]⟩ := by
  unfold dec
  rw [Lib.decDigits, dif_pos h]
theorem itoa_dec {a : Int} (h0 : 0 ≤ a) (h1 : a < 1000000) : strconv_Itoa_27.f a = some (dec a.toNat) := by unfold strconv_Itoa_27.f; rw [if_pos ⟨h0, h1⟩]; rfl
theorem num1 (u : Nat) : ∀ s : ByteArray, s.size + u ≤ 1000000000 → Ev (fun k => spec_l01Num.l0 k (u : Int) s false) (if u = 0 then s else dec u ++ s) := by
  induction u using Nat.strongRecOn with
  | _ u ih =>
    intro s hs
    by_cases c : u = 0
    · subst c
      exact ev_some (fun k => by simp [spec_l01Num.l0])
    · have ht : Int.tdiv (u : Int) 10 = ((u / 10 : Nat) : Int) := by rw [Int.tdiv_eq_ediv_of_nonneg (by omega)]; omega
      have hm : Int.tmod (u : Int) 10 = ((u % 10 : Nat) : Int) := by rw [Int.tmod_eq_emod_of_nonneg (by omega)]; omega
      have hw : wrap64 (48 + ((u % 10 : Nat) : Int)) % 256 = ((48 + u % 10 : Nat) : Int) := by rw [w64 (by omega) (by omega)]; omega
      have hd : strOfNums [wrap64 (48 + ((u % 10 : Nat) : Int)) % 256] = (⟨#[UInt8.ofNat (48 + u % 10)]⟩ : ByteArray) := by
        rw [hw]; unfold strOfNums; rw [List.map_cons, List.map_nil, Int.toNat_natCast]
      have h1 : (⟨#[UInt8.ofNat (48 + u % 10)]⟩ : ByteArray).size = 1 := rfl
      have hr := ih (u / 10) (by omega) ((⟨#[UInt8.ofNat (48 + u % 10)]⟩ : ByteArray) ++ s) (by rw [ByteArray.size_append, h1]; omega)
      have e : (if u = 0 then s else dec u ++ s) = (if u / 10 = 0 then (⟨#[UInt8.ofNat (48 + u % 10)]⟩ : ByteArray) ++ s else dec (u / 10) ++ ((⟨#[UInt8.ofNat (48 + u % 10)]⟩ : ByteArray) ++ s)) := by
        rw [if_neg c]
        by_cases c2 : u < 10
        · rw [if_pos (by omega), dec_small c2, show u % 10 = u by omega]
        · rw [if_neg (by omega), dec_big c2, ByteArray.append_assoc]
      rw [e]
      refine ev_at hr (fun k => ?_)
      simp only [spec_l01Num.l0, Option.bind_some]
      rw [if_neg (by omega), hm, if_neg (by omega), hd, if_pos (by rw [h1]; omega), ht, w64 (by omega) (by omega)]
theorem spec_num {a : Int} (h0 : 0 ≤ a) (h1 : a ≤ 100000000) : Ev (fun k => spec_l01Num.f k a) (dec a.toNat) := by
  obtain ⟨u, rfl⟩ := Int.eq_ofNat_of_zero_le h0
  rw [Int.toNat_natCast]
  by_cases c : u = 0
  · subst c
    exact ev_some (fun k => by simp [spec_l01Num.f, dec_small])
  · have := num1 u ⟨#[]⟩ (by have : (⟨#[]⟩ : ByteArray).size = 0 := rfl; omega)
    rw [if_neg c, show dec u ++ (⟨#[]⟩ : ByteArray) = dec u from by apply ByteArray.ext; rw [ByteArray.data_append]; simp] at this
    unfold spec_l01Num.f
    simp only [show ¬ (u : Int) = 0 by omega, if_false, show decide ((u : Int) < 0) = false from decide_eq_false (by omega)]
    exact this
theorem dec_one {u : Nat} : (dec u).size < 2 ↔ u < 10 := by
  by_cases c : u < 10
  · rw [dec_small c]
    have h1 : (⟨#[UInt8.ofNat (48 + u)]⟩ : ByteArray).size = 1 := rfl
    exact ⟨fun _ => c, fun _ => by omega⟩
  · refine ⟨fun h => ?_, fun h => absurd h c⟩
    have h1 : (⟨#[UInt8.ofNat (48 + u % 10)]⟩ : ByteArray).size = 1 := rfl
    have h2 : 1 ≤ (dec (u / 10)).size := by
      by_cases c2 : u / 10 < 10
      · rw [dec_small c2]; exact Nat.le_refl 1
      · rw [dec_big c2, ByteArray.size_append]
        have : (⟨#[UInt8.ofNat (48 + u / 10 % 10)]⟩ : ByteArray).size = 1 := rfl
        omega
    rw [dec_big c, ByteArray.size_append] at h
    omega
end Go.Proofs.YtnojpcmaalbdhaaDoor.Pure

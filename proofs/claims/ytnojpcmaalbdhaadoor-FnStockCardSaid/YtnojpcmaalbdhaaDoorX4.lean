/- A unit's text read: the program's and the reference's way. -/
import Derived.Test.YtnojpcmaalbdhaaDoorX3
namespace Go.Proofs.YtnojpcmaalbdhaaDoor.Pure
open Go.RowKit Go.Proofs.YtnojpcmaalbdhaaDoor.P Go.Proofs.YtnojpcmaalbdhaaDoorW.PrintWords Go.Proofs.YtnojpcmaalbdhaaDoorW.PrintLast

/-- What stands between the class's letter and the last sign. -/
def midL (u : S43) : List UInt8 := Lib.decDigits u.f0.toNat ++ 47 :: Lib.decDigits u.f2.toNat
def endB (u : S43) : UInt8 := if u.f3 = true then 60 else 62
theorem ut_list (u : S43) : (ut u).data.toList = UInt8.ofNat (64 + u.f1.toNat) :: (midL u ++ [endB u]) := by
  have e1 : (clsT u).data.toList = [UInt8.ofNat (64 + u.f1.toNat)] := rfl
  have e2 : (endT u).data.toList = [endB u] := by unfold endT endB; split <;> rfl
  simp only [ut, ByteArray.data_append, Array.toList_append, e1, e2, dec_list, midL]
  simp
theorem dig_ne {b : UInt8} (h : dgB b) (c : UInt8) (hc : c.toNat < 48) : ¬ b = c := by
  intro e; subst e; unfold dgB at h; omega
theorem no_dig (u : Nat) (c : UInt8) (hc : c.toNat < 48) : c ∉ Lib.decDigits u := fun h => dig_ne ((val_dec u).2 _ h) c hc rfl
theorem ut_len (u : S43) : (ut u).size = (midL u).length + 2 := by rw [← dlen, ut_list]; simp
theorem dec_pos (u : Nat) : 1 ≤ (Lib.decDigits u).length := by rw [Lib.decDigits]; split <;> simp
theorem mid_len (u : S43) : 3 ≤ (midL u).length := by
  have a := dec_pos u.f0.toNat
  have b := dec_pos u.f2.toNat
  simp only [midL, List.length_append, List.length_cons]; omega
theorem ut_plus {u : S43} (h : unitB u = true) : (43 : UInt8) ∉ (ut u).data.toList := by
  obtain ⟨_, ⟨h1, h2⟩, _⟩ := unit_iff.1 h
  rw [ut_list]
  intro hm
  rcases List.mem_cons.1 hm with e | hm
  · have := congrArg UInt8.toNat e
    rw [u8_small _ (by omega)] at this
    have e43 : (43 : UInt8).toNat = 43 := rfl
    omega
  · rcases List.mem_append.1 hm with hm | hm
    · unfold midL at hm
      rcases List.mem_append.1 hm with hm | hm
      · exact no_dig _ 43 (by decide) hm
      · rcases List.mem_cons.1 hm with e | hm
        · exact absurd e (by decide)
        · exact no_dig _ 43 (by decide) hm
    · rw [List.mem_singleton] at hm
      unfold endB at hm
      split at hm <;> exact absurd hm (by decide)
theorem ut_mid (u : S43) : ((ut u).extract 1 ((ut u).size - 1)).data.toList = midL u := by
  rw [Lib.extract_data, ut_len, ut_list]
  simp
theorem dec_four {u : Nat} (h : u ≤ 9999) : (Lib.decDigits u).length ≤ 4 := by
  rw [Lib.decDigits]
  split
  · simp
  · rw [Lib.decDigits]
    split
    · simp
    · rw [Lib.decDigits]
      split
      · simp
      · rw [Lib.decDigits]
        split
        · simp
        · omega
theorem dec_three {u : Nat} (h : u ≤ 999) : (Lib.decDigits u).length ≤ 3 := by
  rw [Lib.decDigits]
  split
  · simp
  · rw [Lib.decDigits]
    split
    · simp
    · rw [Lib.decDigits]
      split
      · simp
      · omega
theorem dec_len (u : Nat) : (dec u).size = (Lib.decDigits u).length := by rw [← dlen, dec_list]
theorem cut_mid (u : S43) : Lib.cut (midL u) [47] = (Lib.decDigits u.f0.toNat, Lib.decDigits u.f2.toNat, true) := by
  have hi : Lib.index (midL u) [47] = ((Lib.decDigits u.f0.toNat).length : Int) := by
    rw [Lib.index_one]; exact ib_hit 47 _ _ (no_dig _ 47 (by decide))
  unfold Lib.cut
  rw [hi, if_pos (by omega), Int.toNat_natCast, List.length_singleton]
  unfold midL
  simp
theorem bt_first {u : S43} (h : unitB u = true) : bt (ut u) 0 = 64 + u.f1 := by
  obtain ⟨_, ⟨h1, h2⟩, _⟩ := unit_iff.1 h
  have hs := ut_len u
  have := bt_nat (ut u) 0 (by omega)
  have e : (ut u).data.toList[0]'(by rw [dlen]; omega) = UInt8.ofNat (64 + u.f1.toNat) := by simp [ut_list]
  rw [e, u8_small _ (by omega)] at this
  rw [show (0 : Int) = ((0 : Nat) : Int) from rfl, this]
  omega
theorem bt_last (u : S43) : (bt (ut u) (((ut u).size - 1 : Nat) : Int) == 60) = u.f3 := by
  have hs := ut_len u
  have := bt_nat (ut u) ((ut u).size - 1) (by omega)
  have e : (ut u).data.toList[(ut u).size - 1]'(by rw [dlen]; omega) = endB u := by
    simp only [ut_len, ut_list]
    simp
  rw [e] at this
  rw [this]
  unfold endB
  cases u.f3 <;> rfl
/-- The program reads any text as some unit, and a unit's text as that unit. -/
theorem read_unit (p : ByteArray) (hp : p.size ≤ 120) : ∃ u : S43, Ev (fun k => impl_readUnit.f k p) (u.f0, u.f1, u.f2, u.f3) ∧ ∀ w, unitB w = true → p = ut w → u = w := by
  by_cases c : (p.size : Int) < 2
  · refine ⟨⟨0, 0, 0, false⟩, ?_, fun w _ e => ?_⟩
    · simp only [impl_readUnit.f, c, if_true]; exact Ev.now _
    · have := ut_len w
      have := mid_len w
      rw [e] at c; omega
  obtain ⟨q, hq⟩ : ∃ q, q = p.extract 1 (p.size - 1) := ⟨_, rfl⟩
  have hqs : q.size ≤ 1000000 := by
    have := dlen q
    rw [← this, hq, Lib.extract_data, List.length_take]; omega
  obtain ⟨a, ha, ha2⟩ := impl_digits_ev ⟨(Lib.cut q.data.toList [47]).1.toArray⟩ 4 (by decide)
  obtain ⟨b, hb, hb2⟩ := impl_digits_ev ⟨(Lib.cut q.data.toList [47]).2.1.toArray⟩ 3 (by decide)
  refine ⟨⟨a, wrap64 ((wrap64 ((wrap64 (bt p 0)) - 65)) + 1), b, (bt p ((p.size - 1 : Nat) : Int) == 60)⟩, ?_, fun w hw e => ?_⟩
  · have e1 : wrap64 ((p.size : Int) - 1) = ((p.size - 1 : Nat) : Int) := by rw [w64 (by omega) (by omega)]; omega
    simp only [impl_readUnit.f, c, if_false, e1, Int.toNat_natCast, ← hq, strings_Cut.f, hqs, if_true, Option.bind_some]
    have c1 : (1 : Int) ≤ ((p.size - 1 : Nat) : Int) := by omega
    have c2 : ((p.size - 1 : Nat) : Int) ≤ (p.size : Int) := by omega
    have c3 : (0 : Int) < (p.size : Int) := by omega
    have c4 : (0 : Int) ≤ ((p.size - 1 : Nat) : Int) := by omega
    have c5 : ((p.size - 1 : Nat) : Int) < (p.size : Int) := by omega
    simp only [c1, c2, if_true]
    refine Ev.bind ha ?_
    simp only [c3, if_true]
    refine Ev.bind hb ?_
    simp only [c4, c5, if_true]
    exact Ev.now _
  · obtain ⟨⟨w1, w2⟩, ⟨w3, w4⟩, w5, w6⟩ := unit_iff.1 hw
    have hql : q.data.toList = midL w := by rw [hq, e]; exact ut_mid w
    rw [hql, cut_mid] at ha2 hb2
    have d4 := dec_four (u := w.f0.toNat) (by omega)
    have d3 := dec_three (u := w.f2.toNat) (by omega)
    have p4 := dec_pos w.f0.toNat
    have p3 := dec_pos w.f2.toNat
    have l4 := dec_len w.f0.toNat
    have l3 := dec_len w.f2.toNat
    have ea : a = w.f0 := by
      have := ha2 w.f0.toNat rfl (by show 1 ≤ (dec w.f0.toNat).size; omega) (by show ((dec w.f0.toNat).size : Int) ≤ 4; omega)
      omega
    have eb : b = w.f2 := by
      have := hb2 w.f2.toNat rfl (by show 1 ≤ (dec w.f2.toNat).size; omega) (by show ((dec w.f2.toNat).size : Int) ≤ 3; omega)
      omega
    have ec : wrap64 ((wrap64 ((wrap64 (bt p 0)) - 65)) + 1) = w.f1 := by
      rw [e, bt_first hw, w64 (x := 64 + w.f1) (by omega) (by omega), w64 (x := 64 + w.f1 - 65) (by omega) (by omega), w64 (by omega) (by omega)]
      omega
    have ed : (bt p ((p.size - 1 : Nat) : Int) == 60) = w.f3 := by rw [e]; exact bt_last w
    rw [ea, eb, ec, ed]
end Go.Proofs.YtnojpcmaalbdhaaDoor.Pure

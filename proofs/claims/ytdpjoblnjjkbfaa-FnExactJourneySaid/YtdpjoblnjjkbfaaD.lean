/- The functions of the program as plain Lean functions, without memory and machine; written by a program of the session. -/
import Derived.Test.YtdpjoblnjjkbfaaProg
import Derived.Test.YtdpjoblnjjkbfaaV
namespace Go.Proofs.Ytdpjoblnjjkbfaa.P
open Go.RowKit Go.Proofs.YtdpjoblnjjkbfaaW.PrintWords Go.Proofs.YtdpjoblnjjkbfaaW.PrintLast Go.Proofs.YtdpjoblnjjkbfaaW.PrintMore
set_option linter.unusedVariables false

structure S92 where
  f0 : Int
  f1 : Int
  f2 : Int
def z92 : S92 := ⟨(0 : Int), (0 : Int), (0 : Int)⟩
def rd_T92 (xs : List S92) (i : Int) : S92 := xs.getD i.toNat z92
def rd_L3 (xs : List (List S92)) (i : Int) : (List S92) := xs.getD i.toNat ([] : List S92)
structure S47 where
  f0 : ByteArray
  f1 : (List S92)
def z47 : S47 := ⟨(⟨#[]⟩ : ByteArray), ([] : List S92)⟩
def rd_T47 (xs : List S47) (i : Int) : S47 := xs.getD i.toNat z47
structure S67 where
  f0 : Int
  f1 : Int
  f2 : Int
def z67 : S67 := ⟨(0 : Int), (0 : Int), (0 : Int)⟩
def rd_T67 (xs : List S67) (i : Int) : S67 := xs.getD i.toNat z67
def rd_L6 (xs : List (List S67)) (i : Int) : (List S67) := xs.getD i.toNat ([] : List S67)
structure S51 where
  f0 : ByteArray
  f1 : (List S67)
def z51 : S51 := ⟨(⟨#[]⟩ : ByteArray), ([] : List S67)⟩
def rd_T51 (xs : List S51) (i : Int) : S51 := xs.getD i.toNat z51
structure S72 where
  f0 : Int
  f1 : Int
  f2 : Int
def z72 : S72 := ⟨(0 : Int), (0 : Int), (0 : Int)⟩
def rd_T72 (xs : List S72) (i : Int) : S72 := xs.getD i.toNat z72
def rd_L10 (xs : List (List S47)) (i : Int) : (List S47) := xs.getD i.toNat ([] : List S47)
def laws_szCallS.f (l0 : List (S92)) (a1 : Int) : Option (Int) := if (wrap64 (a1 - (l0.length : Int))) < 0 then (some (-1)) else (some (wrap64 (a1 - (l0.length : Int))))
def laws_szTrip.f (a0_0 : ByteArray) (l0_1 : List (S92)) (a1 : Int) : Option (Int) := if (wrap64 (a1 - (a0_0.size : Int))) < 0 then (some (-1)) else ((laws_szCallS.f l0_1 (wrap64 (a1 - (a0_0.size : Int)))).bind fun t102 => (if t102 < 0 then (some (-1)) else (some t102)))
def laws_szTripS.l0 : Nat → List (S47) → Int → Int → Option (Int)
  | 0, _, _, _ => none
  | k + 1, x0, x1, x5 => if x5 < (x0.length : Int) then (if 0 ≤ x5 then ((laws_szTrip.f ((rd_T47 x0 x5).f0) ((rd_T47 x0 x5).f1) x1).bind fun t104 => (if t104 < 0 then (some (-1)) else (laws_szTripS.l0 k x0 t104 (wrap64 (x5 + 1))))) else (none)) else (some x1)
def laws_szTripS.f (k : Nat) (l0 : List (S47)) (a1 : Int) : Option (Int) := if (wrap64 (a1 - (l0.length : Int))) < 0 then (some (-1)) else (laws_szTripS.l0 k l0 (wrap64 (a1 - (l0.length : Int))) 0)
def laws_toCall.f (a0_0 : Int) (a0_1 : Int) (a0_2 : Int) : Option (Int × Int × Int) := some (a0_0, a0_1, a0_2)
def laws_toCallS.l0 : Nat → List (S92) → List (S67) → Int → Option ((List (S67)))
  | 0, _, _, _ => none
  | k + 1, x0, x3, x4 => if x4 < (x0.length : Int) then (if 0 ≤ x4 then ((laws_toCall.f ((rd_T92 x0 x4).f0) ((rd_T92 x0 x4).f1) ((rd_T92 x0 x4).f2)).bind fun bt112 => (if x4 < (x3.length : Int) then (laws_toCallS.l0 k x0 (x3.set (x4 : Int).toNat (⟨bt112.1, bt112.2.1, bt112.2.2⟩ : S67)) (wrap64 (x4 + 1))) else (none))) else (none)) else (some x3)
def laws_toCallS.f (k : Nat) (l0 : List (S92)) : Option ((List (S67))) := if 0 ≤ (l0.length : Int) then (if ((l0.length : Int) : Int).toNat ≤ 11728124029610 then (laws_toCallS.l0 k l0 (List.replicate ((l0.length : Int) : Int).toNat z67) 0) else (none)) else (none)
def laws_toTrip.f (k : Nat) (a0_0 : ByteArray) (l0_1 : List (S92)) : Option (ByteArray × (List (S67))) := (laws_toCallS.f k l0_1).bind fun t119 => (some (a0_0, t119))
def laws_toTripS.l0 : Nat → List (S47) → List (S51) → Int → Option ((List (S51)))
  | 0, _, _, _ => none
  | k + 1, x0, x3, x4 => if x4 < (x0.length : Int) then (if 0 ≤ x4 then ((laws_toTrip.f k ((rd_T47 x0 x4).f0) ((rd_T47 x0 x4).f1)).bind fun bt126 => (if x4 < (x3.length : Int) then (laws_toTripS.l0 k x0 (x3.set (x4 : Int).toNat (⟨bt126.1, bt126.2⟩ : S51)) (wrap64 (x4 + 1))) else (none))) else (none)) else (some x3)
def laws_toTripS.f (k : Nat) (l0 : List (S47)) : Option ((List (S51))) := if 0 ≤ (l0.length : Int) then (if ((l0.length : Int) : Int).toNat ≤ 7036874417766 then (laws_toTripS.l0 k l0 (List.replicate ((l0.length : Int) : Int).toNat z51) 0) else (none)) else (none)
def laws_eqCall.f (a0_0 : Int) (a0_1 : Int) (a0_2 : Int) (a1_0 : Int) (a1_1 : Int) (a1_2 : Int) : Option (Bool) := if a0_0 = a1_0 then (if a0_1 = a1_1 then (if a0_2 = a1_2 then (some true) else (some false)) else (some false)) else (some false)
def laws_eqCallS.l0 : Nat → List (S67) → List (S67) → Int → Option (Bool)
  | 0, _, _, _ => none
  | k + 1, x0, x1, x5 => if x5 < (x0.length : Int) then (if 0 ≤ x5 then (if x5 < (x1.length : Int) then ((laws_eqCall.f ((rd_T67 x0 x5).f0) ((rd_T67 x0 x5).f1) ((rd_T67 x0 x5).f2) ((rd_T67 x1 x5).f0) ((rd_T67 x1 x5).f1) ((rd_T67 x1 x5).f2)).bind fun t135 => (if t135 = true then (laws_eqCallS.l0 k x0 x1 (wrap64 (x5 + 1))) else (some false))) else (none)) else (none)) else (some true)
def laws_eqCallS.f (k : Nat) (l0 : List (S67)) (l1 : List (S67)) : Option (Bool) := if (l0.length : Int) = (l1.length : Int) then (laws_eqCallS.l0 k l0 l1 0) else (some false)
def laws_eqTrip.f (k : Nat) (a0_0 : ByteArray) (l0_1 : List (S67)) (a1_0 : ByteArray) (l1_1 : List (S67)) : Option (Bool) := if a0_0.toList = a1_0.toList then ((laws_eqCallS.f k l0_1 l1_1).bind fun t138 => (if t138 = true then (some true) else (some false))) else (some false)
def laws_eqTripS.l0 : Nat → List (S51) → List (S51) → Int → Option (Bool)
  | 0, _, _, _ => none
  | k + 1, x0, x1, x5 => if x5 < (x0.length : Int) then (if 0 ≤ x5 then (if x5 < (x1.length : Int) then ((laws_eqTrip.f k ((rd_T51 x0 x5).f0) ((rd_T51 x0 x5).f1) ((rd_T51 x1 x5).f0) ((rd_T51 x1 x5).f1)).bind fun t141 => (if t141 = true then (laws_eqTripS.l0 k x0 x1 (wrap64 (x5 + 1))) else (some false))) else (none)) else (none)) else (some true)
def laws_eqTripS.f (k : Nat) (l0 : List (S51)) (l1 : List (S51)) : Option (Bool) := if (l0.length : Int) = (l1.length : Int) then (laws_eqTripS.l0 k l0 l1 0) else (some false)
def laws_markText.l0 : Nat → Int → ByteArray → Option (ByteArray)
  | 0, _, _ => none
  | k + 1, x0, x3 => if x0 > 0 then ((some (([(wrap64 (48 + (Int.tmod x0 10))) % 256] : List Int) : List Int)).bind fun y142 => (if (strOfNums y142).size + x3.size ≤ 9223372036854775807 then (laws_markText.l0 k (wrap64 (Int.tdiv x0 10)) ((strOfNums y142) ++ x3)) else (none))) else (if 1 + x3.size ≤ 9223372036854775807 then (some ((⟨#[109]⟩ : ByteArray) ++ x3)) else (none))
def laws_markText.f (k : Nat) (a0 : Int) : Option (ByteArray) := if a0 ≤ 0 then (some (⟨#[109, 48]⟩ : ByteArray)) else (laws_markText.l0 k a0 (⟨#[]⟩ : ByteArray))
def laws_markCallS.l0 : Nat → List (S67) → Int → Int → Option (Int × (List (S67)))
  | 0, _, _, _ => none
  | k + 1, x0, x1, x5 => if x5 < (x0.length : Int) then (if 0 ≤ x5 then ((some (x0.set (x5 : Int).toNat (⟨x1, (rd_T67 x0 x5).f1, (rd_T67 x0 x5).f2⟩ : S67) : List (S67))).bind fun y145 => ((some (y145.set (x5 : Int).toNat (⟨(rd_T67 y145 x5).f0, wrap64 (x1 + 1), (rd_T67 y145 x5).f2⟩ : S67) : List (S67))).bind fun y146 => (laws_markCallS.l0 k (y146.set (x5 : Int).toNat (⟨(rd_T67 y146 x5).f0, (rd_T67 y146 x5).f1, wrap64 ((wrap64 (x1 + 1)) + 1)⟩ : S67)) (wrap64 ((wrap64 ((wrap64 (x1 + 1)) + 1)) + 1)) (wrap64 (x5 + 1))))) else (none)) else (some (x1, x0))
def laws_markCallS.f (k : Nat) (l0 : List (S67)) (a1 : Int) : Option (Int × (List (S67))) := laws_markCallS.l0 k l0 a1 0
def laws_markTripS.l0 : Nat → List S51 → Int → Int → Option Int
  | 0, _, _, _ => none
  | k + 1, x0, x1, x5 => if x5 < (x0.length : Int) then (if 0 ≤ x5 then ((laws_markText.f k x1).bind fun t => ((laws_markCallS.f k ((rd_T51 x0 x5).f1) (wrap64 (x1 + 1))).bind fun b => laws_markTripS.l0 k (x0.set (x5 : Int).toNat (⟨t, b.2⟩ : S51)) b.1 (wrap64 (x5 + 1)))) else none) else some x1
def laws_markTripS.f (k : Nat) (l0 : List S51) (a1 : Int) : Option Int := laws_markTripS.l0 k l0 a1 0
def spec_l01In.f (a0 : Int) (a1 : Int) (a2 : Int) : Option (Bool) := if a1 ≤ a0 then (some (decide (a0 ≤ a2))) else (some false)
def spec_l01Name.l0 : Nat → ByteArray → Int → Option (Bool)
  | 0, _, _ => none
  | k + 1, x0, x3 => if x3 < (x0.size : Int) then (if 0 ≤ x3 then (if (bt x0 x3) ≥ 97 then (if ((bt x0 x3) ≤ 122) then (spec_l01Name.l0 k x0 (wrap64 (x3 + 1))) else (if (bt x0 x3) ≥ 48 then (if ((bt x0 x3) ≤ 57) then (spec_l01Name.l0 k x0 (wrap64 (x3 + 1))) else (some false)) else (some false))) else (if (bt x0 x3) ≥ 48 then (if ((bt x0 x3) ≤ 57) then (spec_l01Name.l0 k x0 (wrap64 (x3 + 1))) else (some false)) else (some false))) else (none)) else ((spec_l01In.f (x0.size : Int) 1 12).bind fun t148 => (some t148))
def spec_l01Name.f (k : Nat) (a0 : ByteArray) : Option (Bool) := spec_l01Name.l0 k a0 0
mutual
def spec_TripOk.j0 : Nat → Bool → ByteArray → List (S67) → Option (Bool)
  | 0, _, _, _ => none
  | k + 1, x15, x150000, x150001 => if x15 = true then (some false) else (spec_TripOk.l0 k 0 x150000 x150001)
def spec_TripOk.l0 : Nat → Int → ByteArray → List (S67) → Option (Bool)
  | 0, _, _, _ => none
  | k + 1, x3, x150000, x150001 => if x3 < (x150001.length : Int) then (if 0 ≤ x3 then ((spec_l01In.f ((rd_T67 x150001 x3).f0) 0 29).bind fun t154 => (if t154 = true then ((spec_l01In.f ((rd_T67 x150001 x3).f2) 0 100000).bind fun t155 => (if t155 = true then ((spec_l01In.f ((rd_T67 x150001 x3).f1) 0 ((rd_T67 x150001 x3).f2)).bind fun t156 => (spec_TripOk.j2 k x3 (!t156) x150000 x150001 ((rd_T67 x150001 x3).f0) ((rd_T67 x150001 x3).f1) ((rd_T67 x150001 x3).f2))) else (spec_TripOk.j2 k x3 true x150000 x150001 ((rd_T67 x150001 x3).f0) ((rd_T67 x150001 x3).f1) ((rd_T67 x150001 x3).f2)))) else (spec_TripOk.j2 k x3 true x150000 x150001 ((rd_T67 x150001 x3).f0) ((rd_T67 x150001 x3).f1) ((rd_T67 x150001 x3).f2)))) else (none)) else (some true)
def spec_TripOk.j2 : Nat → Int → Bool → ByteArray → List (S67) → Int → Int → Int → Option (Bool)
  | 0, _, _, _, _, _, _, _ => none
  | k + 1, x3, x45, x150000, x150001, x154000, x154001, x154002 => if x45 = true then (some false) else (if x3 > 0 then (if 0 ≤ (wrap64 (x3 - 1)) then (if (wrap64 (x3 - 1)) < (x150001.length : Int) then (if ((rd_T67 x150001 (wrap64 (x3 - 1))).f2) ≥ x154001 then (some false) else (if ((rd_T67 x150001 (wrap64 (x3 - 1))).f0) = x154000 then (some false) else (spec_TripOk.l0 k (wrap64 (x3 + 1)) x150000 x150001))) else (none)) else (none)) else (spec_TripOk.l0 k (wrap64 (x3 + 1)) x150000 x150001))
end
def spec_TripOk.f (k : Nat) (a0_0 : ByteArray) (l0_1 : List (S67)) : Option (Bool) := (spec_l01Name.f k a0_0).bind fun t150 => (if t150 = true then ((spec_l01In.f (l0_1.length : Int) 2 12).bind fun t151 => (spec_TripOk.j0 k (!t151) a0_0 l0_1)) else (spec_TripOk.j0 k true a0_0 l0_1))
mutual
def spec_TableOk.l0 : Nat → List (S51) → Int → Option (Bool)
  | 0, _, _ => none
  | k + 1, x0, x3 => if x3 < (x0.length : Int) then (if 0 ≤ x3 then ((spec_TripOk.f k ((rd_T51 x0 x3).f0) ((rd_T51 x0 x3).f1)).bind fun t160 => (if t160 = true then (spec_TableOk.l1 k x0 x3 0) else (some false))) else (none)) else (some true)
def spec_TableOk.l1 : Nat → List (S51) → Int → Int → Option (Bool)
  | 0, _, _, _ => none
  | k + 1, x0, x3, x4 => if x4 < x3 then (if 0 ≤ x4 then (if x4 < (x0.length : Int) then (if 0 ≤ x3 then (if x3 < (x0.length : Int) then (if ((rd_T51 x0 x4).f0).toList = ((rd_T51 x0 x3).f0).toList then (some false) else (spec_TableOk.l1 k x0 x3 (wrap64 (x4 + 1)))) else (none)) else (none)) else (none)) else (none)) else (spec_TableOk.l0 k x0 (wrap64 (x3 + 1)))
end
def spec_TableOk.f (k : Nat) (l0 : List (S51)) : Option (Bool) := if (l0.length : Int) > 24 then (some false) else (spec_TableOk.l0 k l0 0)
def spec_l12Change.f (a0 : Int) : Option (Bool) := (spec_l01In.f a0 0 60).bind fun t163 => (some t163)
def spec_l12Asked.f (k : Nat) (l0 : List (S51)) (a1 : Int) (a2 : Int) (a3 : Int) (a4 : Int) (a5 : Int) : Option (Bool) := (spec_TableOk.f k l0).bind fun t164 => (if t164 = true then ((spec_l01In.f a1 0 29).bind fun t165 => (if t165 = true then ((spec_l01In.f a2 0 29).bind fun t166 => (if t166 = true then ((spec_l01In.f a3 0 100000).bind fun t167 => (if t167 = true then ((spec_l12Change.f a4).bind fun t168 => (if t168 = true then ((spec_l01In.f a5 0 5).bind fun t169 => (some t169)) else (some false))) else (some false))) else (some false))) else (some false))) else (some false))
def spec_l01Copy.l0 : Nat → List Int → List Int → Int → Option (List Int)
  | 0, _, _, _ => none
  | k + 1, x0, x3, x4 => if x4 < (x0.length : Int) then (if 0 ≤ x4 then (if x3.length < 17592186044416 then (spec_l01Copy.l0 k x0 (x3 ++ [rd x0 x4]) (wrap64 (x4 + 1))) else (none)) else (none)) else (some x3)
def spec_l01Copy.f (k : Nat) (l0 : List Int) : Option (List Int) := spec_l01Copy.l0 k l0 (([] : List Int)) 0
mutual
def spec_l12Reach.l0 : Nat → List (S51) → Int → Int → Int → Int → List Int → Int → Option (List Int)
  | 0, _, _, _, _, _, _, _ => none
  | k + 1, x0, x1, x2, x3, x4, x11, x12 => if x12 < 30 then (if x11.length < 17592186044416 then (spec_l12Reach.l0 k x0 x1 x2 x3 x4 (x11 ++ [(-1)]) (wrap64 (x12 + 1))) else (none)) else (if 0 ≤ x1 then (if x1 < (x11.length : Int) then (spec_l12Reach.l1 k x0 x1 x3 x4 (x11.set (x1 : Int).toNat x2) 0) else (none)) else (none))
def spec_l12Reach.l1 : Nat → List (S51) → Int → Int → Int → List Int → Int → Option (List Int)
  | 0, _, _, _, _, _, _ => none
  | k + 1, x0, x1, x3, x4, x11, x13 => if x13 < x4 then ((spec_l01Copy.f k x11).bind fun t184 => (spec_l12Reach.l2 k x0 x1 x3 x4 x11 x13 t184 0)) else (some x11)
def spec_l12Reach.l2 : Nat → List (S51) → Int → Int → Int → List Int → Int → List Int → Int → Option (List Int)
  | 0, _, _, _, _, _, _, _, _ => none
  | k + 1, x0, x1, x3, x4, x11, x13, x14, x15 => if x15 < (x0.length : Int) then (if 0 ≤ x15 then (spec_l12Reach.l3 k x0 x1 x3 x4 x11 x13 x14 x15 ((rd_T51 x0 x15).f1) 0) else (none)) else (spec_l12Reach.l1 k x0 x1 x3 x4 x14 (wrap64 (x13 + 1)))
def spec_l12Reach.l3 : Nat → List (S51) → Int → Int → Int → List Int → Int → List Int → Int → List (S67) → Int → Option (List Int)
  | 0, _, _, _, _, _, _, _, _, _, _ => none
  | k + 1, x0, x1, x3, x4, x11, x13, x14, x15, x16, x17 => if x17 < (x16.length : Int) then (if 0 ≤ x17 then (if 0 ≤ ((rd_T67 x16 x17).f0) then (if ((rd_T67 x16 x17).f0) < (x11.length : Int) then (if ((rd_T67 x16 x17).f0) = x1 then (spec_l12Reach.j4 k x0 x1 x3 x4 x11 x13 x14 x15 x16 x17 (rd x11 ((rd_T67 x16 x17).f0)) 0) else (spec_l12Reach.j4 k x0 x1 x3 x4 x11 x13 x14 x15 x16 x17 (rd x11 ((rd_T67 x16 x17).f0)) x3)) else (none)) else (none)) else (none)) else (spec_l12Reach.l2 k x0 x1 x3 x4 x11 x13 x14 (wrap64 (x15 + 1)))
def spec_l12Reach.j4 : Nat → List (S51) → Int → Int → Int → List Int → Int → List Int → Int → List (S67) → Int → Int → Int → Option (List Int)
  | 0, _, _, _, _, _, _, _, _, _, _, _, _ => none
  | k + 1, x0, x1, x3, x4, x11, x13, x14, x15, x16, x17, x18, x19 => if x18 < 0 then (spec_l12Reach.j5 k x0 x1 x3 x4 x11 x13 x14 x15 x16 x17 true) else (if 0 ≤ x17 then (if x17 < (x16.length : Int) then (spec_l12Reach.j5 k x0 x1 x3 x4 x11 x13 x14 x15 x16 x17 (decide (((rd_T67 x16 x17).f2) < (wrap64 (x18 + x19))))) else (none)) else (none))
def spec_l12Reach.j5 : Nat → List (S51) → Int → Int → Int → List Int → Int → List Int → Int → List (S67) → Int → Bool → Option (List Int)
  | 0, _, _, _, _, _, _, _, _, _, _, _ => none
  | k + 1, x0, x1, x3, x4, x11, x13, x14, x15, x16, x17, x86 => if x86 = true then (spec_l12Reach.l3 k x0 x1 x3 x4 x11 x13 x14 x15 x16 (wrap64 (x17 + 1))) else (spec_l12Reach.l4 k x0 x1 x3 x4 x11 x13 x14 x15 x16 x17 (wrap64 (x17 + 1)))
def spec_l12Reach.l4 : Nat → List (S51) → Int → Int → Int → List Int → Int → List Int → Int → List (S67) → Int → Int → Option (List Int)
  | 0, _, _, _, _, _, _, _, _, _, _, _ => none
  | k + 1, x0, x1, x3, x4, x11, x13, x14, x15, x16, x17, x20 => if x20 < (x16.length : Int) then (if 0 ≤ x20 then (if 0 ≤ ((rd_T67 x16 x20).f0) then (if ((rd_T67 x16 x20).f0) < (x14.length : Int) then (if (rd x14 ((rd_T67 x16 x20).f0)) < 0 then (spec_l12Reach.l4 k x0 x1 x3 x4 x11 x13 (x14.set (((rd_T67 x16 x20).f0) : Int).toNat ((rd_T67 x16 x20).f1)) x15 x16 x17 (wrap64 (x20 + 1))) else (if ((rd_T67 x16 x20).f1) < (rd x14 ((rd_T67 x16 x20).f0)) then (spec_l12Reach.l4 k x0 x1 x3 x4 x11 x13 (x14.set (((rd_T67 x16 x20).f0) : Int).toNat ((rd_T67 x16 x20).f1)) x15 x16 x17 (wrap64 (x20 + 1))) else (spec_l12Reach.l4 k x0 x1 x3 x4 x11 x13 x14 x15 x16 x17 (wrap64 (x20 + 1))))) else (none)) else (none)) else (none)) else (spec_l12Reach.l3 k x0 x1 x3 x4 x11 x13 x14 x15 x16 (wrap64 (x17 + 1)))
end
def spec_l12Reach.f (k : Nat) (l0 : List (S51)) (a1 : Int) (a2 : Int) (a3 : Int) (a4 : Int) : Option (List Int) := spec_l12Reach.l0 k l0 a1 a2 a3 a4 (([] : List Int)) 0
def spec_Soonest.f (k : Nat) (l0 : List (S51)) (a1 : Int) (a2 : Int) (a3 : Int) (a4 : Int) (a5 : Int) : Option (Int) := (spec_l12Asked.f k l0 a1 a2 a3 a4 a5).bind fun t201 => (if t201 = true then ((spec_l12Reach.f k l0 a1 a3 a4 a5).bind fun t202 => (if 0 ≤ a2 then (if a2 < (t202.length : Int) then (some (rd t202 a2)) else (none)) else (none))) else (some (-1)))
mutual
def spec_l12First.l0 : Nat → List (S51) → Int → Int → Int → Int → Int → Int → Int → Option (Int × Int × Int)
  | 0, _, _, _, _, _, _, _, _ => none
  | k + 1, x0, x1, x2, x3, x4, x5, x6, x15 => if x15 < (x0.length : Int) then (if 0 ≤ x15 then (spec_l12First.l1 k x0 x1 x2 x3 x4 x5 x6 x15 ((rd_T51 x0 x15).f1) 0) else (none)) else (some (0, 0, 0))
def spec_l12First.l1 : Nat → List (S51) → Int → Int → Int → Int → Int → Int → Int → List (S67) → Int → Option (Int × Int × Int)
  | 0, _, _, _, _, _, _, _, _, _, _ => none
  | k + 1, x0, x1, x2, x3, x4, x5, x6, x15, x16, x17 => if x17 < (x16.length : Int) then (if 0 ≤ x17 then (if ((rd_T67 x16 x17).f0) = x1 then (spec_l12First.j2 k x0 x1 x2 x3 x4 x5 x6 x15 x16 x17 (decide (((rd_T67 x16 x17).f2) < x3))) else (spec_l12First.j2 k x0 x1 x2 x3 x4 x5 x6 x15 x16 x17 true)) else (none)) else (spec_l12First.l0 k x0 x1 x2 x3 x4 x5 x6 (wrap64 (x15 + 1)))
def spec_l12First.j2 : Nat → List (S51) → Int → Int → Int → Int → Int → Int → Int → List (S67) → Int → Bool → Option (Int × Int × Int)
  | 0, _, _, _, _, _, _, _, _, _, _, _ => none
  | k + 1, x0, x1, x2, x3, x4, x5, x6, x15, x16, x17, x51 => if x51 = true then (spec_l12First.l1 k x0 x1 x2 x3 x4 x5 x6 x15 x16 (wrap64 (x17 + 1))) else (spec_l12First.l2 k x0 x1 x2 x3 x4 x5 x6 x15 x16 x17 (wrap64 (x17 + 1)))
def spec_l12First.l2 : Nat → List (S51) → Int → Int → Int → Int → Int → Int → Int → List (S67) → Int → Int → Option (Int × Int × Int)
  | 0, _, _, _, _, _, _, _, _, _, _, _ => none
  | k + 1, x0, x1, x2, x3, x4, x5, x6, x15, x16, x17, x18 => if x18 < (x16.length : Int) then (if x5 = 0 then (if 0 ≤ x18 then (if ((rd_T67 x16 x18).f0) = x2 then (spec_l12First.j4 k x0 x1 x2 x3 x4 x5 x6 x15 x16 x17 x18 (((rd_T67 x16 x18).f1) == x6)) else (spec_l12First.j4 k x0 x1 x2 x3 x4 x5 x6 x15 x16 x17 x18 false)) else (none)) else (if 0 ≤ x18 then (if ((rd_T67 x16 x18).f0) = x2 then (spec_l12First.l2 k x0 x1 x2 x3 x4 x5 x6 x15 x16 x17 (wrap64 (x18 + 1))) else ((spec_l12Reach.f k x0 ((rd_T67 x16 x18).f0) (wrap64 (((rd_T67 x16 x18).f1) + x4)) x4 x5).bind fun t215 => (if 0 ≤ x2 then (if x2 < (t215.length : Int) then (if (rd t215 x2) = x6 then (some (x15, x17, x18)) else (spec_l12First.l2 k x0 x1 x2 x3 x4 x5 x6 x15 x16 x17 (wrap64 (x18 + 1)))) else (none)) else (none)))) else (none))) else (spec_l12First.l1 k x0 x1 x2 x3 x4 x5 x6 x15 x16 (wrap64 (x17 + 1)))
def spec_l12First.j4 : Nat → List (S51) → Int → Int → Int → Int → Int → Int → Int → List (S67) → Int → Int → Bool → Option (Int × Int × Int)
  | 0, _, _, _, _, _, _, _, _, _, _, _, _ => none
  | k + 1, x0, x1, x2, x3, x4, x5, x6, x15, x16, x17, x18, x77 => if x77 = true then (some (x15, x17, x18)) else (spec_l12First.l2 k x0 x1 x2 x3 x4 x5 x6 x15 x16 x17 (wrap64 (x18 + 1)))
end
def spec_l12First.f (k : Nat) (l0 : List (S51)) (a1 : Int) (a2 : Int) (a3 : Int) (a4 : Int) (a5 : Int) (a6 : Int) : Option (Int × Int × Int) := spec_l12First.l0 k l0 a1 a2 a3 a4 a5 a6 0
mutual
def spec_Journey.l0 : Nat → List (S51) → Int → Int → Int → Int → Int → List (S72) → Int → Option ((List (S72)))
  | 0, _, _, _, _, _, _, _, _ => none
  | k + 1, x0, x1, x2, x3, x4, x13, x14, x15 => (spec_Soonest.f k x0 x1 x2 x3 x4 x15).bind fun t223 => (if t223 = x13 then (spec_Journey.l1 k x0 x1 x2 x4 x13 x14 x15 x3) else (spec_Journey.l0 k x0 x1 x2 x3 x4 x13 x14 (wrap64 (x15 + 1))))
def spec_Journey.l1 : Nat → List (S51) → Int → Int → Int → Int → List (S72) → Int → Int → Option ((List (S72)))
  | 0, _, _, _, _, _, _, _, _ => none
  | k + 1, x0, x1, x2, x4, x13, x14, x15, x16 => if x15 > 0 then ((spec_l12First.f k x0 x1 x2 x16 x4 (wrap64 (x15 - 1)) x13).bind fun bt224 => (if x14.length < 5864062014805 then (if 0 ≤ bt224.1 then (if bt224.1 < (x0.length : Int) then (if 0 ≤ bt224.2.2 then (if bt224.2.2 < (((rd_T51 x0 bt224.1).f1).length : Int) then (spec_Journey.l1 k x0 ((rd_T67 ((rd_T51 x0 bt224.1).f1) bt224.2.2).f0) x2 x4 x13 (x14 ++ [(⟨bt224.1, bt224.2.1, bt224.2.2⟩ : S72)]) (wrap64 (x15 - 1)) (wrap64 (((rd_T67 ((rd_T51 x0 bt224.1).f1) bt224.2.2).f1) + x4))) else (none)) else (none)) else (none)) else (none)) else (none))) else (some x14)
end
def spec_Journey.f (k : Nat) (l0 : List (S51)) (a1 : Int) (a2 : Int) (a3 : Int) (a4 : Int) (a5 : Int) : Option ((List (S72))) := (spec_Soonest.f k l0 a1 a2 a3 a4 a5).bind fun t219 => (if t219 < 0 then (some ([] : List (S72))) else (spec_Journey.l0 k l0 a1 a2 a3 a4 t219 (([] : List (S72))) 0))
def impl_between.f (a0 : Int) (a1 : Int) (a2 : Int) : Option (Bool) := if a0 ≥ a1 then (some (decide (a0 ≤ a2))) else (some false)
def impl_isMinute.f (a0 : Int) : Option (Bool) := (impl_between.f a0 0 100000).bind fun t234 => (some t234)
mutual
def impl_nameOk.j0 : Nat → ByteArray → Bool → Option (Bool)
  | 0, _, _ => none
  | k + 1, x0, x11 => if x11 = true then (some false) else (impl_nameOk.l0 k x0 0)
def impl_nameOk.l0 : Nat → ByteArray → Int → Option (Bool)
  | 0, _, _ => none
  | k + 1, x0, x3 => if x3 < (x0.size : Int) then (if 0 ≤ x3 then (if (bt x0 x3) < 97 then (if (bt x0 x3) < 48 then (some false) else (if (bt x0 x3) > 57 then (some false) else (impl_nameOk.l0 k x0 (wrap64 (x3 + 1))))) else (if (bt x0 x3) > 122 then (if (bt x0 x3) < 48 then (some false) else (if (bt x0 x3) > 57 then (some false) else (impl_nameOk.l0 k x0 (wrap64 (x3 + 1))))) else (impl_nameOk.l0 k x0 (wrap64 (x3 + 1))))) else (none)) else (some true)
end
def impl_nameOk.f (k : Nat) (a0 : ByteArray) : Option (Bool) := if (a0.size : Int) < 1 then (impl_nameOk.j0 k a0 true) else (impl_nameOk.j0 k a0 (decide ((a0.size : Int) > 12)))
mutual
def impl_TripOk.j0 : Nat → Bool → ByteArray → List (S67) → Option (Bool)
  | 0, _, _, _ => none
  | k + 1, x15, x236000, x236001 => if x15 = true then (some false) else (impl_TripOk.l0 k x236001 (x236001.length : Int) 0 x236000 x236001)
def impl_TripOk.l0 : Nat → List (S67) → Int → Int → ByteArray → List (S67) → Option (Bool)
  | 0, _, _, _, _, _ => none
  | k + 1, x17, x18, x19, x236000, x236001 => if x19 < x18 then (if 0 ≤ x19 then (if x19 < (x17.length : Int) then ((impl_between.f ((rd_T67 x17 x19).f0) 0 29).bind fun t240 => (if t240 = true then ((impl_isMinute.f ((rd_T67 x17 x19).f1)).bind fun t241 => (if t241 = true then ((impl_isMinute.f ((rd_T67 x17 x19).f2)).bind fun t242 => (if t242 = true then (impl_TripOk.j2 k x19 x17 x18 x19 (decide (((rd_T67 x17 x19).f1) > ((rd_T67 x17 x19).f2))) x236000 x236001 ((rd_T67 x17 x19).f0) ((rd_T67 x17 x19).f1) ((rd_T67 x17 x19).f2)) else (impl_TripOk.j2 k x19 x17 x18 x19 true x236000 x236001 ((rd_T67 x17 x19).f0) ((rd_T67 x17 x19).f1) ((rd_T67 x17 x19).f2)))) else (impl_TripOk.j2 k x19 x17 x18 x19 true x236000 x236001 ((rd_T67 x17 x19).f0) ((rd_T67 x17 x19).f1) ((rd_T67 x17 x19).f2)))) else (impl_TripOk.j2 k x19 x17 x18 x19 true x236000 x236001 ((rd_T67 x17 x19).f0) ((rd_T67 x17 x19).f1) ((rd_T67 x17 x19).f2)))) else (none)) else (none)) else (some true)
def impl_TripOk.j2 : Nat → Int → List (S67) → Int → Int → Bool → ByteArray → List (S67) → Int → Int → Int → Option (Bool)
  | 0, _, _, _, _, _, _, _, _, _, _ => none
  | k + 1, x3, x17, x18, x19, x46, x236000, x236001, x240000, x240001, x240002 => if x46 = true then (some false) else (if x3 > 0 then (if 0 ≤ (wrap64 (x3 - 1)) then (if (wrap64 (x3 - 1)) < (x236001.length : Int) then (if x240001 ≤ ((rd_T67 x236001 (wrap64 (x3 - 1))).f2) then (some false) else (if x240000 = ((rd_T67 x236001 (wrap64 (x3 - 1))).f0) then (some false) else (impl_TripOk.l0 k x17 x18 (wrap64 (x19 + 1)) x236000 x236001))) else (none)) else (none)) else (impl_TripOk.l0 k x17 x18 (wrap64 (x19 + 1)) x236000 x236001))
end
def impl_TripOk.f (k : Nat) (a0_0 : ByteArray) (l0_1 : List (S67)) : Option (Bool) := (impl_nameOk.f k a0_0).bind fun t236 => (if t236 = true then ((impl_between.f (l0_1.length : Int) 2 12).bind fun t237 => (impl_TripOk.j0 k (!t237) a0_0 l0_1)) else (impl_TripOk.j0 k true a0_0 l0_1))
def impl_tripNamed.l0 (l0 : List S51) (a1 : ByteArray) : Int := if l0.findIdx (fun x => x.f0.toList == a1.toList) < l0.length then (l0.findIdx (fun x => x.f0.toList == a1.toList) : Int) else -1
def impl_tripNamed.f (l0 : List S51) (a1 : ByteArray) : Option Int := if l0.length ≤ 1000 then some (impl_tripNamed.l0 l0 a1) else none
def impl_TableOk.l0 : Nat → List (S51) → List (S51) → Int → Int → Option (Bool)
  | 0, _, _, _, _ => none
  | k + 1, x0, x8, x9, x10 => if x10 < x9 then (if 0 ≤ x10 then (if x10 < (x8.length : Int) then ((impl_TripOk.f k ((rd_T51 x8 x10).f0) ((rd_T51 x8 x10).f1)).bind fun t247 => (if t247 = true then (if x10 ≤ (x0.length : Int) then ((impl_tripNamed.f (x0.take (x10 : Int).toNat) ((rd_T51 x8 x10).f0)).bind fun t252 => (if t252 ≥ 0 then (some false) else (impl_TableOk.l0 k x0 x8 x9 (wrap64 (x10 + 1))))) else (none)) else (some false))) else (none)) else (none)) else (some true)
def impl_TableOk.f (k : Nat) (l0 : List (S51)) : Option (Bool) := if (l0.length : Int) > 24 then (some false) else (impl_TableOk.l0 k l0 l0 (l0.length : Int) 0)
def impl_changeOk.f (a0 : Int) : Option (Bool) := (impl_between.f a0 0 60).bind fun t253 => (some t253)
def impl_questionOk.j0 : Nat → Int → Int → Int → Bool → Option (Bool)
  | 0, _, _, _, _ => none
  | k + 1, x3, x4, x5, x25 => if x25 = true then (some false) else ((impl_isMinute.f x3).bind fun t257 => (if t257 = true then ((impl_changeOk.f x4).bind fun t258 => (if t258 = true then ((impl_between.f x5 0 5).bind fun t259 => (some t259)) else (some false))) else (some false)))
def impl_questionOk.f (k : Nat) (l0 : List (S51)) (a1 : Int) (a2 : Int) (a3 : Int) (a4 : Int) (a5 : Int) : Option (Bool) := (impl_TableOk.f k l0).bind fun t254 => (if t254 = true then ((impl_between.f a1 0 29).bind fun t255 => (if t255 = true then ((impl_between.f a2 0 29).bind fun t256 => (impl_questionOk.j0 k a3 a4 a5 (!t256))) else (impl_questionOk.j0 k a3 a4 a5 true))) else (impl_questionOk.j0 k a3 a4 a5 true))
def impl_arrivals.l0 (h : Nat) (wait : Int) (s : List Int × Bool) (c : S67) : List Int × Bool :=
  let o1 := if s.2 = true then s.1.set ((h + 1) * 30 + c.f0.toNat) (min (s.1.getD ((h + 1) * 30 + c.f0.toNat) 0) c.f1) else s.1
  (o1, s.2 || (decide (o1.getD (h * 30 + c.f0.toNat) 0 < 100001) && decide (o1.getD (h * 30 + c.f0.toNat) 0 + wait ≤ c.f2)))
def impl_arrivals.l1 (h : Nat) (wait : Int) (o : List Int) (t : S51) : List Int := (t.f1.foldl (impl_arrivals.l0 h wait) (o, false)).1
def impl_arrivals.l2 (l : List S51) (ch : Int) : Nat → List Int → List Int
  | 0, o => o
  | h + 1, o => l.foldl (impl_arrivals.l1 h (if h = 0 then 0 else ch)) (impl_arrivals.l2 l ch h o)
def impl_arrivals.l3 (l : List S51) (fr mi ch : Int) (hops : Nat) : List Int := impl_arrivals.l2 l ch hops ((List.replicate ((hops + 1) * 30) 100001).set fr.toNat mi)
def impl_arrivals.l4 (l : List S51) : Bool := decide (l.length ≤ 24) && l.all (fun t => decide (t.f1.length ≤ 12) && t.f1.all (fun c => decide (0 ≤ c.f0) && decide (c.f0 < 30) && decide (0 ≤ c.f1) && decide (c.f1 ≤ 100000) && decide (0 ≤ c.f2) && decide (c.f2 ≤ 100000)))
def impl_soonest.l0 (o : List Int) (tg : Nat) : Nat → Int × Int
  | 0 => (100001, -1)
  | h + 1 => if o.getD (h * 30 + tg) 0 < (impl_soonest.l0 o tg h).1 then (o.getD (h * 30 + tg) 0, (h : Int)) else impl_soonest.l0 o tg h
def impl_soonest.l1 (s : Int × Int) : Int × Int := if s.2 < 0 then (-1, -1) else s
def impl_soonest.l2 (l : List S51) (fr tg mi ch : Int) (hops : Nat) : Int × Int := impl_soonest.l1 (impl_soonest.l0 (impl_arrivals.l3 l fr mi ch hops) tg.toNat (hops + 1))
def impl_soonest.f (l0 : List S51) (a1 : Int) (a2 : Int) (a3 : Int) (a4 : Int) (a5 : Int) : Option (Int × Int) := if impl_arrivals.l4 l0 = true ∧ 0 ≤ a1 ∧ a1 < 30 ∧ 0 ≤ a2 ∧ a2 < 30 ∧ 0 ≤ a3 ∧ a3 ≤ 100000 ∧ 0 ≤ a4 ∧ a4 ≤ 60 ∧ 0 ≤ a5 ∧ a5 ≤ 5 then some (impl_soonest.l2 l0 a1 a2 a3 a4 a5.toNat) else none
mutual
def impl_legsFrom.l0 : Nat → Int → List (S72) → List (S51) → Int → Int → Option ((List (S72)))
  | 0, _, _, _, _, _ => none
  | k + 1, x1, x5, x12, x13, x14 => if x14 < x13 then (if 0 ≤ x14 then (if x14 < (x12.length : Int) then (impl_legsFrom.l1 k x1 x5 x14 x12 x13 x14 ((rd_T51 x12 x14).f1) (((rd_T51 x12 x14).f1).length : Int) 0 ((rd_T51 x12 x14).f0) ((rd_T51 x12 x14).f1)) else (none)) else (none)) else (some x5)
def impl_legsFrom.l1 : Nat → Int → List (S72) → Int → List (S51) → Int → Int → List (S67) → Int → Int → ByteArray → List (S67) → Option ((List (S72)))
  | 0, _, _, _, _, _, _, _, _, _, _, _ => none
  | k + 1, x1, x5, x6, x12, x13, x14, x20, x21, x22, x265000, x265001 => if x22 < x21 then (if 0 ≤ x22 then (if x22 < (x20.length : Int) then (if ((rd_T67 x20 x22).f0) = x1 then (impl_legsFrom.l2 k x1 x5 x6 x22 (wrap64 (x22 + 1)) x12 x13 x14 x20 x21 x22 x265000 x265001) else (impl_legsFrom.l1 k x1 x5 x6 x12 x13 x14 x20 x21 (wrap64 (x22 + 1)) x265000 x265001)) else (none)) else (none)) else (impl_legsFrom.l0 k x1 x5 x12 x13 (wrap64 (x14 + 1)))
def impl_legsFrom.l2 : Nat → Int → List (S72) → Int → Int → Int → List (S51) → Int → Int → List (S67) → Int → Int → ByteArray → List (S67) → Option ((List (S72)))
  | 0, _, _, _, _, _, _, _, _, _, _, _, _, _ => none
  | k + 1, x1, x5, x6, x8, x10, x12, x13, x14, x20, x21, x22, x265000, x265001 => if x10 < (x265001.length : Int) then (if x5.length < 5864062014805 then (impl_legsFrom.l2 k x1 (x5 ++ [(⟨x6, x8, x10⟩ : S72)]) x6 x8 (wrap64 (x10 + 1)) x12 x13 x14 x20 x21 x22 x265000 x265001) else (none)) else (impl_legsFrom.l1 k x1 x5 x6 x12 x13 x14 x20 x21 (wrap64 (x22 + 1)) x265000 x265001)
end
def impl_legsFrom.f (k : Nat) (l0 : List (S51)) (a1 : Int) : Option ((List (S72))) := impl_legsFrom.l0 k a1 (([] : List (S72))) l0 (l0.length : Int) 0
def impl_leaves.f (l0 : List (S51)) (a1_0 : Int) (a1_1 : Int) (a1_2 : Int) : Option (Int) := if 0 ≤ a1_0 then (if a1_0 < (l0.length : Int) then (if 0 ≤ a1_1 then (if a1_1 < (((rd_T51 l0 a1_0).f1).length : Int) then (some ((rd_T67 ((rd_T51 l0 a1_0).f1) a1_1).f2)) else (none)) else (none)) else (none)) else (none)
def impl_ends.f (l0 : List (S51)) (a1_0 : Int) (a1_1 : Int) (a1_2 : Int) : Option (Int) := if 0 ≤ a1_0 then (if a1_0 < (l0.length : Int) then (if 0 ≤ a1_2 then (if a1_2 < (((rd_T51 l0 a1_0).f1).length : Int) then (some ((rd_T67 ((rd_T51 l0 a1_0).f1) a1_2).f0)) else (none)) else (none)) else (none)) else (none)
def impl_arrives.f (l0 : List (S51)) (a1_0 : Int) (a1_1 : Int) (a1_2 : Int) : Option (Int) := if 0 ≤ a1_0 then (if a1_0 < (l0.length : Int) then (if 0 ≤ a1_2 then (if a1_2 < (((rd_T51 l0 a1_0).f1).length : Int) then (some ((rd_T67 ((rd_T51 l0 a1_0).f1) a1_2).f1)) else (none)) else (none)) else (none)) else (none)
def impl_departures.l0 (l : List S51) (node : Int) : List S72 := (List.range l.length).flatMap fun i => (List.range (l.getD i z51).f1.length).flatMap fun on => if ((l.getD i z51).f1.getD on z67).f0 = node then (List.range ((l.getD i z51).f1.length - (on + 1))).map fun m => (⟨(i : Int), (on : Int), ((on + 1 + m : Nat) : Int)⟩ : S72) else []
def impl_departures.l1 (l : List S51) (x : S72) : S67 := rd_T67 (rd_T51 l x.f0).f1 x.f1
def impl_departures.l2 (l : List S51) (x : S72) : S67 := rd_T67 (rd_T51 l x.f0).f1 x.f2
def impl_departures.l3 (l : List S51) (tg by_ ch : Int) (last : Bool) (rw : Nat → Int) (x : S72) : Bool := if last = true then decide ((impl_departures.l2 l x).f0 = tg) && decide ((impl_departures.l2 l x).f1 ≤ by_) else decide ((impl_departures.l2 l x).f1 + ch ≤ rw (impl_departures.l2 l x).f0.toNat)
def impl_departures.l4 (l : List S51) (tg by_ ch : Int) (h node : Nat) (o : List Int) (x : S72) : List Int := if impl_departures.l3 l tg by_ ch (decide (h = 0)) (fun i => o.getD (h * 30 + i) 0) x = true then o.set ((h + 1) * 30 + node) (max (o.getD ((h + 1) * 30 + node) 0) (impl_departures.l1 l x).f2) else o
def impl_departures.l5 (l : List S51) (tg by_ ch : Int) (h : Nat) : Nat → List Int → List Int
  | 0, o => o
  | node + 1, o => (impl_departures.l0 l (node : Int)).foldl (impl_departures.l4 l tg by_ ch h node) (impl_departures.l5 l tg by_ ch h node o)
def impl_departures.l6 (l : List S51) (tg by_ ch : Int) : Nat → List Int → List Int
  | 0, o => o
  | h + 1, o => impl_departures.l5 l tg by_ ch h 30 (impl_departures.l6 l tg by_ ch h o)
def impl_departures.l7 (l : List S51) (tg by_ ch : Int) (hops : Nat) : List Int := impl_departures.l6 l tg by_ ch hops (List.replicate ((hops + 1) * 30) (-1))
def impl_departures.l8 (l : List S51) : Bool := decide (l.length ≤ 24) && l.all (fun t => decide (t.f1.length ≤ 12) && t.f1.all (fun c => decide (0 ≤ c.f0) && decide (c.f0 < 30) && decide (0 ≤ c.f1) && decide (c.f1 ≤ 100000) && decide (0 ≤ c.f2) && decide (c.f2 ≤ 100000)))
def impl_Journey.l0 (l : List S51) (tg by_ ch ready : Int) (h : Nat) (o : List Int) (x : S72) : Bool := decide ((impl_departures.l1 l x).f2 ≥ ready) && impl_departures.l3 l tg by_ ch (decide (h = 0)) (fun i => o.getD (h * 30 + i) 0) x
def impl_Journey.l1 (l : List S51) (tg by_ ch : Int) (o : List Int) : Nat → List S72 → Int → Int → List S72
  | 0, out, _, _ => out
  | h + 1, out, at_, ready => match (impl_departures.l0 l at_).find? (impl_Journey.l0 l tg by_ ch ready h o) with
    | some x => impl_Journey.l1 l tg by_ ch o h (out ++ [x]) (impl_departures.l2 l x).f0 ((impl_departures.l2 l x).f1 + ch)
    | none => impl_Journey.l1 l tg by_ ch o h out at_ ready
def impl_Journey.l2 (l0 : List S51) (a1 : Int) (a2 : Int) (a3 : Int) (a4 : Int) (r1 : Int) (r2 : Int) : Option (List S72) := if r1 < 0 then some [] else if impl_departures.l8 l0 = true ∧ 0 ≤ a1 ∧ a1 < 30 ∧ 0 ≤ a3 ∧ a3 ≤ 100000 ∧ 0 ≤ a4 ∧ a4 ≤ 60 ∧ 0 ≤ r2 ∧ r2 ≤ 5 then some (impl_Journey.l1 l0 a2 r1 a4 (impl_departures.l7 l0 a2 r1 a4 r2.toNat) r2.toNat [] a1 a3) else none
def impl_Journey.f (k : Nat) (l0 : List S51) (a1 : Int) (a2 : Int) (a3 : Int) (a4 : Int) (a5 : Int) : Option (List S72) := (impl_questionOk.f k l0 a1 a2 a3 a4 a5).bind fun t => if t = true then (impl_soonest.f l0 a1 a2 a3 a4 a5).bind fun b => impl_Journey.l2 l0 a1 a2 a3 a4 b.1 b.2 else some []
def laws_eqLeg.f (a0_0 : Int) (a0_1 : Int) (a0_2 : Int) (a1_0 : Int) (a1_1 : Int) (a1_2 : Int) : Option (Bool) := if a0_0 = a1_0 then (if a0_1 = a1_1 then (if a0_2 = a1_2 then (some true) else (some false)) else (some false)) else (some false)
def laws_eqLegS.l0 : Nat → List (S72) → List (S72) → Int → Option (Bool)
  | 0, _, _, _ => none
  | k + 1, x0, x1, x5 => if x5 < (x0.length : Int) then (if 0 ≤ x5 then (if x5 < (x1.length : Int) then ((laws_eqLeg.f ((rd_T72 x0 x5).f0) ((rd_T72 x0 x5).f1) ((rd_T72 x0 x5).f2) ((rd_T72 x1 x5).f0) ((rd_T72 x1 x5).f1) ((rd_T72 x1 x5).f2)).bind fun t283 => (if t283 = true then (laws_eqLegS.l0 k x0 x1 (wrap64 (x5 + 1))) else (some false))) else (none)) else (none)) else (some true)
def laws_eqLegS.f (k : Nat) (l0 : List (S72)) (l1 : List (S72)) : Option (Bool) := if (l0.length : Int) = (l1.length : Int) then (laws_eqLegS.l0 k l0 l1 0) else (some false)
def laws_markLegS.l0 : Nat → List (S72) → Int → Int → Option (Int × (List (S72)))
  | 0, _, _, _ => none
  | k + 1, x0, x1, x5 => if x5 < (x0.length : Int) then (if 0 ≤ x5 then ((some (x0.set (x5 : Int).toNat (⟨x1, (rd_T72 x0 x5).f1, (rd_T72 x0 x5).f2⟩ : S72) : List (S72))).bind fun y284 => ((some (y284.set (x5 : Int).toNat (⟨(rd_T72 y284 x5).f0, wrap64 (x1 + 1), (rd_T72 y284 x5).f2⟩ : S72) : List (S72))).bind fun y285 => (laws_markLegS.l0 k (y285.set (x5 : Int).toNat (⟨(rd_T72 y285 x5).f0, (rd_T72 y285 x5).f1, wrap64 ((wrap64 (x1 + 1)) + 1)⟩ : S72)) (wrap64 ((wrap64 ((wrap64 (x1 + 1)) + 1)) + 1)) (wrap64 (x5 + 1))))) else (none)) else (some (x1, x0))
def laws_markLegS.f (k : Nat) (l0 : List (S72)) (a1 : Int) : Option (Int × (List (S72))) := laws_markLegS.l0 k l0 a1 0
def laws_heldLegS.l0 : Nat → List (S72) → Int → Int → Option (Int)
  | 0, _, _, _ => none
  | k + 1, x0, x1, x5 => if x5 < (x0.length : Int) then (if 0 ≤ x5 then (if ((rd_T72 x0 x5).f0) = x1 then (if ((rd_T72 x0 x5).f1) = (wrap64 (x1 + 1)) then (if ((rd_T72 x0 x5).f2) = (wrap64 ((wrap64 (x1 + 1)) + 1)) then (laws_heldLegS.l0 k x0 (wrap64 ((wrap64 ((wrap64 (x1 + 1)) + 1)) + 1)) (wrap64 (x5 + 1))) else (some (-1))) else (some (-1))) else (some (-1))) else (none)) else (some x1)
def laws_heldLegS.f (k : Nat) (l0 : List (S72)) (a1 : Int) : Option (Int) := laws_heldLegS.l0 k l0 a1 0
def laws_FnExactJourney.j0 : Nat → List (S47) → Int → Int → Int → Int → Int → List (S72) → List (S72) → Bool → Option (Bool)
  | 0, _, _, _, _, _, _, _, _, _ => none
  | k + 1, x0, x1, x2, x3, x4, x5, x14, x16, x62 => if x62 = true then (some false) else ((laws_markLegS.f k x16 1).bind fun bt310 => ((laws_heldLegS.f k bt310.2 1).bind fun t312 => (if t312 < 0 then (some false) else (if t312 = bt310.1 then ((laws_toTripS.f k x0).bind fun t313 => ((impl_Journey.f k t313 x1 x2 x3 x4 x5).bind fun t316 => ((laws_eqLegS.f k t316 x14).bind fun t319 => (if t319 = true then ((laws_heldLegS.f k bt310.2 1).bind fun t320 => (if t320 < 0 then (some false) else (if t320 = bt310.1 then (some true) else (some false)))) else (some false))))) else (some false)))))
def laws_FnExactJourney.f (k : Nat) (l0 : List (S47)) (a1 : Int) (a2 : Int) (a3 : Int) (a4 : Int) (a5 : Int) : Option (Bool) := (laws_szTripS.f k l0 1048576).bind fun t290 => (if t290 < 0 then (some true) else ((laws_toTripS.f k l0).bind fun t291 => ((spec_Journey.f k t291 a1 a2 a3 a4 a5).bind fun t294 => ((laws_toTripS.f k l0).bind fun t297 => ((impl_Journey.f k t297 a1 a2 a3 a4 a5).bind fun t300 => ((laws_eqLegS.f k t300 t294).bind fun t303 => (if t303 = true then ((laws_toTripS.f k l0).bind fun t304 => ((laws_eqTripS.f k t297 t304).bind fun t307 => (if t307 = true then ((laws_markTripS.f k t297 1).bind fun t308 => (if t308 < 0 then (laws_FnExactJourney.j0 k l0 a1 a2 a3 a4 a5 t294 t300 true) else ((laws_eqLegS.f k t300 t294).bind fun t309 => (laws_FnExactJourney.j0 k l0 a1 a2 a3 a4 a5 t294 t300 (!t309))))) else (some false)))) else (some false))))))))
end Go.Proofs.Ytdpjoblnjjkbfaa.P

/- The functions of the program as plain Lean functions, without memory and machine; written by a program of the session. -/
import Derived.Test.YtdpjoblnjjkbfaaDoorS1
import Derived.Test.YtdpjoblnjjkbfaaDoorProg
import Derived.Test.YtdpjoblnjjkbfaaDoorV
namespace Go.Proofs.YtdpjoblnjjkbfaaDoor.P
open Go.RowKit Go.Proofs.YtdpjoblnjjkbfaaDoorW.PrintWords Go.Proofs.YtdpjoblnjjkbfaaDoorW.PrintLast Go.Proofs.YtdpjoblnjjkbfaaDoorW.PrintMore
set_option linter.unusedVariables false

structure S92 where
  f0 : Int
  f1 : Int
  f2 : Int
def z92 : S92 := ⟨(0 : Int), (0 : Int), (0 : Int)⟩
def rd_T92 (xs : List S92) (i : Int) : S92 := xs.getD i.toNat z92
def rd_L3 (xs : List (List S92)) (i : Int) : (List S92) := xs.getD i.toNat ([] : List S92)
structure S52 where
  f0 : ByteArray
  f1 : (List S92)
def z52 : S52 := ⟨(⟨#[]⟩ : ByteArray), ([] : List S92)⟩
def rd_T52 (xs : List S52) (i : Int) : S52 := xs.getD i.toNat z52
structure S56 where
  f0 : Int
  f1 : Int
  f2 : Int
def z56 : S56 := ⟨(0 : Int), (0 : Int), (0 : Int)⟩
def rd_T56 (xs : List S56) (i : Int) : S56 := xs.getD i.toNat z56
structure S43 where
  f0 : Int
  f1 : Int
  f2 : Int
def z43 : S43 := ⟨(0 : Int), (0 : Int), (0 : Int)⟩
def rd_T43 (xs : List S43) (i : Int) : S43 := xs.getD i.toNat z43
def rd_L7 (xs : List (List S43)) (i : Int) : (List S43) := xs.getD i.toNat ([] : List S43)
structure S46 where
  f0 : ByteArray
  f1 : (List S43)
def z46 : S46 := ⟨(⟨#[]⟩ : ByteArray), ([] : List S43)⟩
def rd_T46 (xs : List S46) (i : Int) : S46 := xs.getD i.toNat z46
structure S48 where
  f0 : Int
  f1 : Int
  f2 : Int
def z48 : S48 := ⟨(0 : Int), (0 : Int), (0 : Int)⟩
def rd_T48 (xs : List S48) (i : Int) : S48 := xs.getD i.toNat z48
def rd_L11 (xs : List (List S52)) (i : Int) : (List S52) := xs.getD i.toNat ([] : List S52)
def rd_L12 (xs : List (List S56)) (i : Int) : (List S56) := xs.getD i.toNat ([] : List S56)
def laws_szCallS.f (l0 : List (S92)) (a1 : Int) : Option (Int) := if (wrap64 (a1 - (l0.length : Int))) < 0 then (some (-1)) else (some (wrap64 (a1 - (l0.length : Int))))
def laws_szTrip.f (a0_0 : ByteArray) (l0_1 : List (S92)) (a1 : Int) : Option (Int) := if (wrap64 (a1 - (a0_0.size : Int))) < 0 then (some (-1)) else ((laws_szCallS.f l0_1 (wrap64 (a1 - (a0_0.size : Int)))).bind fun t102 => (if t102 < 0 then (some (-1)) else (some t102)))
def laws_szTripS.l0 : Nat → List (S52) → Int → Int → Option (Int)
  | 0, _, _, _ => none
  | k + 1, x0, x1, x5 => if x5 < (x0.length : Int) then (if 0 ≤ x5 then ((laws_szTrip.f ((rd_T52 x0 x5).f0) ((rd_T52 x0 x5).f1) x1).bind fun t104 => (if t104 < 0 then (some (-1)) else (laws_szTripS.l0 k x0 t104 (wrap64 (x5 + 1))))) else (none)) else (some x1)
def laws_szTripS.f (k : Nat) (l0 : List (S52)) (a1 : Int) : Option (Int) := if (wrap64 (a1 - (l0.length : Int))) < 0 then (some (-1)) else (laws_szTripS.l0 k l0 (wrap64 (a1 - (l0.length : Int))) 0)
def laws_szLegS.f (l0 : List (S56)) (a1 : Int) : Option (Int) := if (wrap64 (a1 - (l0.length : Int))) < 0 then (some (-1)) else (some (wrap64 (a1 - (l0.length : Int))))
def spec_l01In.f (a0 : Int) (a1 : Int) (a2 : Int) : Option (Bool) := if a1 ≤ a0 then (some (decide (a0 ≤ a2))) else (some false)
def spec_l01Name.l0 : Nat → ByteArray → Int → Option (Bool)
  | 0, _, _ => none
  | k + 1, x0, x3 => if x3 < (x0.size : Int) then (if 0 ≤ x3 then (if (bt x0 x3) ≥ 97 then (if ((bt x0 x3) ≤ 122) then (spec_l01Name.l0 k x0 (wrap64 (x3 + 1))) else (if (bt x0 x3) ≥ 48 then (if ((bt x0 x3) ≤ 57) then (spec_l01Name.l0 k x0 (wrap64 (x3 + 1))) else (some false)) else (some false))) else (if (bt x0 x3) ≥ 48 then (if ((bt x0 x3) ≤ 57) then (spec_l01Name.l0 k x0 (wrap64 (x3 + 1))) else (some false)) else (some false))) else (none)) else ((spec_l01In.f (x0.size : Int) 1 12).bind fun t105 => (some t105))
def spec_l01Name.f (k : Nat) (a0 : ByteArray) : Option (Bool) := spec_l01Name.l0 k a0 0
mutual
def spec_TripOk.j0 : Nat → Bool → ByteArray → List (S43) → Option (Bool)
  | 0, _, _, _ => none
  | k + 1, x15, x107000, x107001 => if x15 = true then (some false) else (spec_TripOk.l0 k 0 x107000 x107001)
def spec_TripOk.l0 : Nat → Int → ByteArray → List (S43) → Option (Bool)
  | 0, _, _, _ => none
  | k + 1, x3, x107000, x107001 => if x3 < (x107001.length : Int) then (if 0 ≤ x3 then ((spec_l01In.f ((rd_T43 x107001 x3).f0) 0 29).bind fun t111 => (if t111 = true then ((spec_l01In.f ((rd_T43 x107001 x3).f2) 0 100000).bind fun t112 => (if t112 = true then ((spec_l01In.f ((rd_T43 x107001 x3).f1) 0 ((rd_T43 x107001 x3).f2)).bind fun t113 => (spec_TripOk.j2 k x3 (!t113) x107000 x107001 ((rd_T43 x107001 x3).f0) ((rd_T43 x107001 x3).f1) ((rd_T43 x107001 x3).f2))) else (spec_TripOk.j2 k x3 true x107000 x107001 ((rd_T43 x107001 x3).f0) ((rd_T43 x107001 x3).f1) ((rd_T43 x107001 x3).f2)))) else (spec_TripOk.j2 k x3 true x107000 x107001 ((rd_T43 x107001 x3).f0) ((rd_T43 x107001 x3).f1) ((rd_T43 x107001 x3).f2)))) else (none)) else (some true)
def spec_TripOk.j2 : Nat → Int → Bool → ByteArray → List (S43) → Int → Int → Int → Option (Bool)
  | 0, _, _, _, _, _, _, _ => none
  | k + 1, x3, x45, x107000, x107001, x111000, x111001, x111002 => if x45 = true then (some false) else (if x3 > 0 then (if 0 ≤ (wrap64 (x3 - 1)) then (if (wrap64 (x3 - 1)) < (x107001.length : Int) then (if ((rd_T43 x107001 (wrap64 (x3 - 1))).f2) ≥ x111001 then (some false) else (if ((rd_T43 x107001 (wrap64 (x3 - 1))).f0) = x111000 then (some false) else (spec_TripOk.l0 k (wrap64 (x3 + 1)) x107000 x107001))) else (none)) else (none)) else (spec_TripOk.l0 k (wrap64 (x3 + 1)) x107000 x107001))
end
def spec_TripOk.f (k : Nat) (a0_0 : ByteArray) (l0_1 : List (S43)) : Option (Bool) := (spec_l01Name.f k a0_0).bind fun t107 => (if t107 = true then ((spec_l01In.f (l0_1.length : Int) 2 12).bind fun t108 => (spec_TripOk.j0 k (!t108) a0_0 l0_1)) else (spec_TripOk.j0 k true a0_0 l0_1))
mutual
def spec_TableOk.l0 : Nat → List (S46) → Int → Option (Bool)
  | 0, _, _ => none
  | k + 1, x0, x3 => if x3 < (x0.length : Int) then (if 0 ≤ x3 then ((spec_TripOk.f k ((rd_T46 x0 x3).f0) ((rd_T46 x0 x3).f1)).bind fun t117 => (if t117 = true then (spec_TableOk.l1 k x0 x3 0) else (some false))) else (none)) else (some true)
def spec_TableOk.l1 : Nat → List (S46) → Int → Int → Option (Bool)
  | 0, _, _, _ => none
  | k + 1, x0, x3, x4 => if x4 < x3 then (if 0 ≤ x4 then (if x4 < (x0.length : Int) then (if 0 ≤ x3 then (if x3 < (x0.length : Int) then (if ((rd_T46 x0 x4).f0).toList = ((rd_T46 x0 x3).f0).toList then (some false) else (spec_TableOk.l1 k x0 x3 (wrap64 (x4 + 1)))) else (none)) else (none)) else (none)) else (none)) else (spec_TableOk.l0 k x0 (wrap64 (x3 + 1)))
end
def spec_TableOk.f (k : Nat) (l0 : List (S46)) : Option (Bool) := if (l0.length : Int) > 24 then (some false) else (spec_TableOk.l0 k l0 0)
def spec_l12Change.f (a0 : Int) : Option (Bool) := (spec_l01In.f a0 0 60).bind fun t120 => (some t120)
mutual
def spec_LegsOk.j0 : Nat → List (S46) → List (S48) → Int → Bool → Option (Bool)
  | 0, _, _, _, _ => none
  | k + 1, x0, x1, x2, x23 => if x23 = true then (some false) else (spec_LegsOk.l0 k x0 x1 x2 0)
def spec_LegsOk.l0 : Nat → List (S46) → List (S48) → Int → Int → Option (Bool)
  | 0, _, _, _, _ => none
  | k + 1, x0, x1, x2, x7 => if x7 < (x1.length : Int) then (if 0 ≤ x7 then ((spec_l01In.f ((rd_T48 x1 x7).f0) 0 (wrap64 ((x0.length : Int) - 1))).bind fun t125 => (if t125 = true then (if 0 ≤ ((rd_T48 x1 x7).f0) then (if ((rd_T48 x1 x7).f0) < (x0.length : Int) then ((spec_l01In.f ((rd_T48 x1 x7).f2) 0 (wrap64 ((((rd_T46 x0 ((rd_T48 x1 x7).f0)).f1).length : Int) - 1))).bind fun t127 => (if t127 = true then ((spec_l01In.f ((rd_T48 x1 x7).f1) 0 (wrap64 (((rd_T48 x1 x7).f2) - 1))).bind fun t128 => (spec_LegsOk.j2 k x0 x1 x2 x7 (!t128) ((rd_T48 x1 x7).f0) ((rd_T48 x1 x7).f1) ((rd_T48 x1 x7).f2))) else (spec_LegsOk.j2 k x0 x1 x2 x7 true ((rd_T48 x1 x7).f0) ((rd_T48 x1 x7).f1) ((rd_T48 x1 x7).f2)))) else (none)) else (none)) else (spec_LegsOk.j2 k x0 x1 x2 x7 true ((rd_T48 x1 x7).f0) ((rd_T48 x1 x7).f1) ((rd_T48 x1 x7).f2)))) else (none)) else (some true)
def spec_LegsOk.j2 : Nat → List (S46) → List (S48) → Int → Int → Bool → Int → Int → Int → Option (Bool)
  | 0, _, _, _, _, _, _, _, _ => none
  | k + 1, x0, x1, x2, x7, x63, x125000, x125001, x125002 => if x63 = true then (some false) else (if x7 > 0 then (if 0 ≤ (wrap64 (x7 - 1)) then (if (wrap64 (x7 - 1)) < (x1.length : Int) then (if 0 ≤ ((rd_T48 x1 (wrap64 (x7 - 1))).f0) then (if ((rd_T48 x1 (wrap64 (x7 - 1))).f0) < (x0.length : Int) then (if 0 ≤ ((rd_T48 x1 (wrap64 (x7 - 1))).f2) then (if ((rd_T48 x1 (wrap64 (x7 - 1))).f2) < (((rd_T46 x0 ((rd_T48 x1 (wrap64 (x7 - 1))).f0)).f1).length : Int) then (if 0 ≤ x125000 then (if x125000 < (x0.length : Int) then (if 0 ≤ x125001 then (if x125001 < (((rd_T46 x0 x125000).f1).length : Int) then (if ((rd_T43 ((rd_T46 x0 ((rd_T48 x1 (wrap64 (x7 - 1))).f0)).f1) ((rd_T48 x1 (wrap64 (x7 - 1))).f2)).f0) = ((rd_T43 ((rd_T46 x0 x125000).f1) x125001).f0) then (if ((rd_T43 ((rd_T46 x0 x125000).f1) x125001).f2) < (wrap64 (((rd_T43 ((rd_T46 x0 ((rd_T48 x1 (wrap64 (x7 - 1))).f0)).f1) ((rd_T48 x1 (wrap64 (x7 - 1))).f2)).f1) + x2)) then (some false) else (spec_LegsOk.l0 k x0 x1 x2 (wrap64 (x7 + 1)))) else (some false)) else (none)) else (none)) else (none)) else (none)) else (none)) else (none)) else (none)) else (none)) else (none)) else (none)) else (spec_LegsOk.l0 k x0 x1 x2 (wrap64 (x7 + 1))))
end
def spec_LegsOk.f (k : Nat) (l0 : List (S46)) (l1 : List (S48)) (a2 : Int) : Option (Bool) := (spec_TableOk.f k l0).bind fun t121 => (if t121 = true then ((spec_l12Change.f a2).bind fun t122 => (if t122 = true then (spec_LegsOk.j0 k l0 l1 a2 (decide ((l1.length : Int) > 5))) else (spec_LegsOk.j0 k l0 l1 a2 true))) else (spec_LegsOk.j0 k l0 l1 a2 true))
def spec_l01Num.l0 : Nat → Int → ByteArray → Bool → Option (ByteArray)
  | 0, _, _, _ => none
  | k + 1, x0, x3, x4 => if x0 = 0 then (if x4 = true then (if 1 + x3.size ≤ 9223372036854775807 then (some ((⟨#[45]⟩ : ByteArray) ++ x3)) else (none)) else (some x3)) else (if (Int.tmod x0 10) < 0 then ((some (([(wrap64 (48 + (wrap64 (-(Int.tmod x0 10))))) % 256] : List Int) : List Int)).bind fun y137 => (if (strOfNums y137).size + x3.size ≤ 9223372036854775807 then (spec_l01Num.l0 k (wrap64 (Int.tdiv x0 10)) ((strOfNums y137) ++ x3) x4) else (none))) else ((some (([(wrap64 (48 + (Int.tmod x0 10))) % 256] : List Int) : List Int)).bind fun y140 => (if (strOfNums y140).size + x3.size ≤ 9223372036854775807 then (spec_l01Num.l0 k (wrap64 (Int.tdiv x0 10)) ((strOfNums y140) ++ x3) x4) else (none))))
def spec_l01Num.f (k : Nat) (a0 : Int) : Option (ByteArray) := if a0 = 0 then (some (⟨#[48]⟩ : ByteArray)) else (spec_l01Num.l0 k a0 (⟨#[]⟩ : ByteArray) (decide (a0 < 0)))
def spec_TimeText.f (k : Nat) (a0 : Int) : Option (ByteArray) := (spec_l01In.f a0 0 100000).bind fun t143 => (if t143 = true then ((spec_l01Num.f k (wrap64 (Int.tdiv a0 60))).bind fun t144 => ((spec_l01Num.f k (Int.tmod a0 60)).bind fun t145 => (if (t144.size : Int) < 2 then (if 1 + t144.size ≤ 9223372036854775807 then (if (t145.size : Int) < 2 then (if 1 + t145.size ≤ 9223372036854775807 then (if ((⟨#[48]⟩ : ByteArray) ++ t144).size + 1 ≤ 9223372036854775807 then (if (((⟨#[48]⟩ : ByteArray) ++ t144) ++ (⟨#[58]⟩ : ByteArray)).size + ((⟨#[48]⟩ : ByteArray) ++ t145).size ≤ 9223372036854775807 then (some ((((⟨#[48]⟩ : ByteArray) ++ t144) ++ (⟨#[58]⟩ : ByteArray)) ++ ((⟨#[48]⟩ : ByteArray) ++ t145))) else (none)) else (none)) else (none)) else (if ((⟨#[48]⟩ : ByteArray) ++ t144).size + 1 ≤ 9223372036854775807 then (if (((⟨#[48]⟩ : ByteArray) ++ t144) ++ (⟨#[58]⟩ : ByteArray)).size + t145.size ≤ 9223372036854775807 then (some ((((⟨#[48]⟩ : ByteArray) ++ t144) ++ (⟨#[58]⟩ : ByteArray)) ++ t145)) else (none)) else (none))) else (none)) else (if (t145.size : Int) < 2 then (if 1 + t145.size ≤ 9223372036854775807 then (if t144.size + 1 ≤ 9223372036854775807 then (if (t144 ++ (⟨#[58]⟩ : ByteArray)).size + ((⟨#[48]⟩ : ByteArray) ++ t145).size ≤ 9223372036854775807 then (some ((t144 ++ (⟨#[58]⟩ : ByteArray)) ++ ((⟨#[48]⟩ : ByteArray) ++ t145))) else (none)) else (none)) else (none)) else (if t144.size + 1 ≤ 9223372036854775807 then (if (t144 ++ (⟨#[58]⟩ : ByteArray)).size + t145.size ≤ 9223372036854775807 then (some ((t144 ++ (⟨#[58]⟩ : ByteArray)) ++ t145)) else (none)) else (none)))))) else (some (⟨#[]⟩ : ByteArray)))
def spec_JourneyText.l0 : Nat → List (S46) → List (S48) → ByteArray → Int → Option (ByteArray)
  | 0, _, _, _, _ => none
  | k + 1, x0, x1, x7, x8 => if x8 < (x1.length : Int) then (if 0 ≤ x8 then (if 0 ≤ ((rd_T48 x1 x8).f0) then (if ((rd_T48 x1 x8).f0) < (x0.length : Int) then (if x8 > 0 then (if x7.size + 3 ≤ 9223372036854775807 then (if (x7 ++ (⟨#[32, 47, 32]⟩ : ByteArray)).size + ((rd_T46 x0 ((rd_T48 x1 x8).f0)).f0).size ≤ 9223372036854775807 then (if ((x7 ++ (⟨#[32, 47, 32]⟩ : ByteArray)) ++ ((rd_T46 x0 ((rd_T48 x1 x8).f0)).f0)).size + 1 ≤ 9223372036854775807 then (if 0 ≤ ((rd_T48 x1 x8).f1) then (if ((rd_T48 x1 x8).f1) < (((rd_T46 x0 ((rd_T48 x1 x8).f0)).f1).length : Int) then ((spec_TimeText.f k ((rd_T43 ((rd_T46 x0 ((rd_T48 x1 x8).f0)).f1) ((rd_T48 x1 x8).f1)).f2)).bind fun t152 => (if (((x7 ++ (⟨#[32, 47, 32]⟩ : ByteArray)) ++ ((rd_T46 x0 ((rd_T48 x1 x8).f0)).f0)) ++ (⟨#[32]⟩ : ByteArray)).size + t152.size ≤ 9223372036854775807 then (if ((((x7 ++ (⟨#[32, 47, 32]⟩ : ByteArray)) ++ ((rd_T46 x0 ((rd_T48 x1 x8).f0)).f0)) ++ (⟨#[32]⟩ : ByteArray)) ++ t152).size + 1 ≤ 9223372036854775807 then (if 0 ≤ ((rd_T48 x1 x8).f2) then (if ((rd_T48 x1 x8).f2) < (((rd_T46 x0 ((rd_T48 x1 x8).f0)).f1).length : Int) then ((spec_TimeText.f k ((rd_T43 ((rd_T46 x0 ((rd_T48 x1 x8).f0)).f1) ((rd_T48 x1 x8).f2)).f1)).bind fun t155 => (if (((((x7 ++ (⟨#[32, 47, 32]⟩ : ByteArray)) ++ ((rd_T46 x0 ((rd_T48 x1 x8).f0)).f0)) ++ (⟨#[32]⟩ : ByteArray)) ++ t152) ++ (⟨#[45]⟩ : ByteArray)).size + t155.size ≤ 9223372036854775807 then (spec_JourneyText.l0 k x0 x1 ((((((x7 ++ (⟨#[32, 47, 32]⟩ : ByteArray)) ++ ((rd_T46 x0 ((rd_T48 x1 x8).f0)).f0)) ++ (⟨#[32]⟩ : ByteArray)) ++ t152) ++ (⟨#[45]⟩ : ByteArray)) ++ t155) (wrap64 (x8 + 1))) else (none))) else (none)) else (none)) else (none)) else (none))) else (none)) else (none)) else (none)) else (none)) else (none)) else (if x7.size + ((rd_T46 x0 ((rd_T48 x1 x8).f0)).f0).size ≤ 9223372036854775807 then (if (x7 ++ ((rd_T46 x0 ((rd_T48 x1 x8).f0)).f0)).size + 1 ≤ 9223372036854775807 then (if 0 ≤ ((rd_T48 x1 x8).f1) then (if ((rd_T48 x1 x8).f1) < (((rd_T46 x0 ((rd_T48 x1 x8).f0)).f1).length : Int) then ((spec_TimeText.f k ((rd_T43 ((rd_T46 x0 ((rd_T48 x1 x8).f0)).f1) ((rd_T48 x1 x8).f1)).f2)).bind fun t158 => (if ((x7 ++ ((rd_T46 x0 ((rd_T48 x1 x8).f0)).f0)) ++ (⟨#[32]⟩ : ByteArray)).size + t158.size ≤ 9223372036854775807 then (if (((x7 ++ ((rd_T46 x0 ((rd_T48 x1 x8).f0)).f0)) ++ (⟨#[32]⟩ : ByteArray)) ++ t158).size + 1 ≤ 9223372036854775807 then (if 0 ≤ ((rd_T48 x1 x8).f2) then (if ((rd_T48 x1 x8).f2) < (((rd_T46 x0 ((rd_T48 x1 x8).f0)).f1).length : Int) then ((spec_TimeText.f k ((rd_T43 ((rd_T46 x0 ((rd_T48 x1 x8).f0)).f1) ((rd_T48 x1 x8).f2)).f1)).bind fun t161 => (if ((((x7 ++ ((rd_T46 x0 ((rd_T48 x1 x8).f0)).f0)) ++ (⟨#[32]⟩ : ByteArray)) ++ t158) ++ (⟨#[45]⟩ : ByteArray)).size + t161.size ≤ 9223372036854775807 then (spec_JourneyText.l0 k x0 x1 (((((x7 ++ ((rd_T46 x0 ((rd_T48 x1 x8).f0)).f0)) ++ (⟨#[32]⟩ : ByteArray)) ++ t158) ++ (⟨#[45]⟩ : ByteArray)) ++ t161) (wrap64 (x8 + 1))) else (none))) else (none)) else (none)) else (none)) else (none))) else (none)) else (none)) else (none)) else (none))) else (none)) else (none)) else (none)) else (some x7)
def spec_JourneyText.f (k : Nat) (l0 : List (S46)) (l1 : List (S48)) (a2 : Int) : Option (ByteArray) := (spec_LegsOk.f k l0 l1 a2).bind fun t146 => (if t146 = true then (spec_JourneyText.l0 k l0 l1 (⟨#[]⟩ : ByteArray) 0) else (some (⟨#[]⟩ : ByteArray)))
def laws_toCall.f (a0_0 : Int) (a0_1 : Int) (a0_2 : Int) : Option (Int × Int × Int) := some (a0_0, a0_1, a0_2)
def laws_toCallS.l0 : Nat → List (S92) → List (S43) → Int → Option ((List (S43)))
  | 0, _, _, _ => none
  | k + 1, x0, x3, x4 => if x4 < (x0.length : Int) then (if 0 ≤ x4 then ((laws_toCall.f ((rd_T92 x0 x4).f0) ((rd_T92 x0 x4).f1) ((rd_T92 x0 x4).f2)).bind fun bt169 => (if x4 < (x3.length : Int) then (laws_toCallS.l0 k x0 (x3.set (x4 : Int).toNat (⟨bt169.1, bt169.2.1, bt169.2.2⟩ : S43)) (wrap64 (x4 + 1))) else (none))) else (none)) else (some x3)
def laws_toCallS.f (k : Nat) (l0 : List (S92)) : Option ((List (S43))) := if 0 ≤ (l0.length : Int) then (if ((l0.length : Int) : Int).toNat ≤ 11728124029610 then (laws_toCallS.l0 k l0 (List.replicate ((l0.length : Int) : Int).toNat z43) 0) else (none)) else (none)
def laws_toTrip.f (k : Nat) (a0_0 : ByteArray) (l0_1 : List (S92)) : Option (ByteArray × (List (S43))) := (laws_toCallS.f k l0_1).bind fun t176 => (some (a0_0, t176))
def laws_toTripS.l0 : Nat → List (S52) → List (S46) → Int → Option ((List (S46)))
  | 0, _, _, _ => none
  | k + 1, x0, x3, x4 => if x4 < (x0.length : Int) then (if 0 ≤ x4 then ((laws_toTrip.f k ((rd_T52 x0 x4).f0) ((rd_T52 x0 x4).f1)).bind fun bt183 => (if x4 < (x3.length : Int) then (laws_toTripS.l0 k x0 (x3.set (x4 : Int).toNat (⟨bt183.1, bt183.2⟩ : S46)) (wrap64 (x4 + 1))) else (none))) else (none)) else (some x3)
def laws_toTripS.f (k : Nat) (l0 : List (S52)) : Option ((List (S46))) := if 0 ≤ (l0.length : Int) then (if ((l0.length : Int) : Int).toNat ≤ 7036874417766 then (laws_toTripS.l0 k l0 (List.replicate ((l0.length : Int) : Int).toNat z46) 0) else (none)) else (none)
def laws_toLeg.f (a0_0 : Int) (a0_1 : Int) (a0_2 : Int) : Option (Int × Int × Int) := some (a0_0, a0_1, a0_2)
def laws_toLegS.l0 : Nat → List (S56) → List (S48) → Int → Option ((List (S48)))
  | 0, _, _, _ => none
  | k + 1, x0, x3, x4 => if x4 < (x0.length : Int) then (if 0 ≤ x4 then ((laws_toLeg.f ((rd_T56 x0 x4).f0) ((rd_T56 x0 x4).f1) ((rd_T56 x0 x4).f2)).bind fun bt195 => (if x4 < (x3.length : Int) then (laws_toLegS.l0 k x0 (x3.set (x4 : Int).toNat (⟨bt195.1, bt195.2.1, bt195.2.2⟩ : S48)) (wrap64 (x4 + 1))) else (none))) else (none)) else (some x3)
def laws_toLegS.f (k : Nat) (l0 : List (S56)) : Option ((List (S48))) := if 0 ≤ (l0.length : Int) then (if ((l0.length : Int) : Int).toNat ≤ 11728124029610 then (laws_toLegS.l0 k l0 (List.replicate ((l0.length : Int) : Int).toNat z48) 0) else (none)) else (none)
def impl_leaves.f (l0 : List (S46)) (a1_0 : Int) (a1_1 : Int) (a1_2 : Int) : Option (Int) := if 0 ≤ a1_0 then (if a1_0 < (l0.length : Int) then (if 0 ≤ a1_1 then (if a1_1 < (((rd_T46 l0 a1_0).f1).length : Int) then (some ((rd_T43 ((rd_T46 l0 a1_0).f1) a1_1).f2)) else (none)) else (none)) else (none)) else (none)
def impl_arrives.f (l0 : List (S46)) (a1_0 : Int) (a1_1 : Int) (a1_2 : Int) : Option (Int) := if 0 ≤ a1_0 then (if a1_0 < (l0.length : Int) then (if 0 ≤ a1_2 then (if a1_2 < (((rd_T46 l0 a1_0).f1).length : Int) then (some ((rd_T43 ((rd_T46 l0 a1_0).f1) a1_2).f1)) else (none)) else (none)) else (none)) else (none)
def impl_ends.f (l0 : List (S46)) (a1_0 : Int) (a1_1 : Int) (a1_2 : Int) : Option (Int) := if 0 ≤ a1_0 then (if a1_0 < (l0.length : Int) then (if 0 ≤ a1_2 then (if a1_2 < (((rd_T46 l0 a1_0).f1).length : Int) then (some ((rd_T43 ((rd_T46 l0 a1_0).f1) a1_2).f0)) else (none)) else (none)) else (none)) else (none)
def impl_between.f (a0 : Int) (a1 : Int) (a2 : Int) : Option (Bool) := if a0 ≥ a1 then (some (decide (a0 ≤ a2))) else (some false)
def impl_isMinute.f (a0 : Int) : Option (Bool) := (impl_between.f a0 0 100000).bind fun t208 => (some t208)
mutual
def impl_nameOk.j0 : Nat → ByteArray → Bool → Option (Bool)
  | 0, _, _ => none
  | k + 1, x0, x11 => if x11 = true then (some false) else (impl_nameOk.l0 k x0 0)
def impl_nameOk.l0 : Nat → ByteArray → Int → Option (Bool)
  | 0, _, _ => none
  | k + 1, x0, x3 => if x3 < (x0.size : Int) then (if 0 ≤ x3 then (if (bt x0 x3) < 97 then (if (bt x0 x3) < 48 then (some false) else (if (bt x0 x3) > 57 then (some false) else (impl_nameOk.l0 k x0 (wrap64 (x3 + 1))))) else (if (bt x0 x3) > 122 then (if (bt x0 x3) < 48 then (some false) else (if (bt x0 x3) > 57 then (some false) else (impl_nameOk.l0 k x0 (wrap64 (x3 + 1))))) else (impl_nameOk.l0 k x0 (wrap64 (x3 + 1))))) else (none)) else (some true)
end
def impl_nameOk.f (k : Nat) (a0 : ByteArray) : Option (Bool) := if (a0.size : Int) < 1 then (impl_nameOk.j0 k a0 true) else (impl_nameOk.j0 k a0 (decide ((a0.size : Int) > 12)))
mutual
def impl_TripOk.j0 : Nat → Bool → ByteArray → List (S43) → Option (Bool)
  | 0, _, _, _ => none
  | k + 1, x15, x210000, x210001 => if x15 = true then (some false) else (impl_TripOk.l0 k x210001 (x210001.length : Int) 0 x210000 x210001)
def impl_TripOk.l0 : Nat → List (S43) → Int → Int → ByteArray → List (S43) → Option (Bool)
  | 0, _, _, _, _, _ => none
  | k + 1, x17, x18, x19, x210000, x210001 => if x19 < x18 then (if 0 ≤ x19 then (if x19 < (x17.length : Int) then ((impl_between.f ((rd_T43 x17 x19).f0) 0 29).bind fun t214 => (if t214 = true then ((impl_isMinute.f ((rd_T43 x17 x19).f1)).bind fun t215 => (if t215 = true then ((impl_isMinute.f ((rd_T43 x17 x19).f2)).bind fun t216 => (if t216 = true then (impl_TripOk.j2 k x19 x17 x18 x19 (decide (((rd_T43 x17 x19).f1) > ((rd_T43 x17 x19).f2))) x210000 x210001 ((rd_T43 x17 x19).f0) ((rd_T43 x17 x19).f1) ((rd_T43 x17 x19).f2)) else (impl_TripOk.j2 k x19 x17 x18 x19 true x210000 x210001 ((rd_T43 x17 x19).f0) ((rd_T43 x17 x19).f1) ((rd_T43 x17 x19).f2)))) else (impl_TripOk.j2 k x19 x17 x18 x19 true x210000 x210001 ((rd_T43 x17 x19).f0) ((rd_T43 x17 x19).f1) ((rd_T43 x17 x19).f2)))) else (impl_TripOk.j2 k x19 x17 x18 x19 true x210000 x210001 ((rd_T43 x17 x19).f0) ((rd_T43 x17 x19).f1) ((rd_T43 x17 x19).f2)))) else (none)) else (none)) else (some true)
def impl_TripOk.j2 : Nat → Int → List (S43) → Int → Int → Bool → ByteArray → List (S43) → Int → Int → Int → Option (Bool)
  | 0, _, _, _, _, _, _, _, _, _, _ => none
  | k + 1, x3, x17, x18, x19, x46, x210000, x210001, x214000, x214001, x214002 => if x46 = true then (some false) else (if x3 > 0 then (if 0 ≤ (wrap64 (x3 - 1)) then (if (wrap64 (x3 - 1)) < (x210001.length : Int) then (if x214001 ≤ ((rd_T43 x210001 (wrap64 (x3 - 1))).f2) then (some false) else (if x214000 = ((rd_T43 x210001 (wrap64 (x3 - 1))).f0) then (some false) else (impl_TripOk.l0 k x17 x18 (wrap64 (x19 + 1)) x210000 x210001))) else (none)) else (none)) else (impl_TripOk.l0 k x17 x18 (wrap64 (x19 + 1)) x210000 x210001))
end
def impl_TripOk.f (k : Nat) (a0_0 : ByteArray) (l0_1 : List (S43)) : Option (Bool) := (impl_nameOk.f k a0_0).bind fun t210 => (if t210 = true then ((impl_between.f (l0_1.length : Int) 2 12).bind fun t211 => (impl_TripOk.j0 k (!t211) a0_0 l0_1)) else (impl_TripOk.j0 k true a0_0 l0_1))
def impl_tripNamed.l0 (l0 : List S46) (a1 : ByteArray) : Int := if l0.findIdx (fun x => x.f0.toList == a1.toList) < l0.length then (l0.findIdx (fun x => x.f0.toList == a1.toList) : Int) else -1
def impl_tripNamed.f (l0 : List S46) (a1 : ByteArray) : Option Int := if l0.length ≤ 1000 then some (impl_tripNamed.l0 l0 a1) else none
def impl_TableOk.l0 : Nat → List (S46) → List (S46) → Int → Int → Option (Bool)
  | 0, _, _, _, _ => none
  | k + 1, x0, x8, x9, x10 => if x10 < x9 then (if 0 ≤ x10 then (if x10 < (x8.length : Int) then ((impl_TripOk.f k ((rd_T46 x8 x10).f0) ((rd_T46 x8 x10).f1)).bind fun t221 => (if t221 = true then (if x10 ≤ (x0.length : Int) then ((impl_tripNamed.f (x0.take (x10 : Int).toNat) ((rd_T46 x8 x10).f0)).bind fun t226 => (if t226 ≥ 0 then (some false) else (impl_TableOk.l0 k x0 x8 x9 (wrap64 (x10 + 1))))) else (none)) else (some false))) else (none)) else (none)) else (some true)
def impl_TableOk.f (k : Nat) (l0 : List (S46)) : Option (Bool) := if (l0.length : Int) > 24 then (some false) else (impl_TableOk.l0 k l0 l0 (l0.length : Int) 0)
def impl_changeOk.f (a0 : Int) : Option (Bool) := (impl_between.f a0 0 60).bind fun t227 => (some t227)
mutual
def impl_LegsOk.j0 : Nat → List (S46) → List (S48) → Int → Bool → Option (Bool)
  | 0, _, _, _, _ => none
  | k + 1, x0, x1, x2, x22 => if x22 = true then (some false) else (impl_LegsOk.l0 k x0 x1 x2 x1 (x1.length : Int) 0)
def impl_LegsOk.l0 : Nat → List (S46) → List (S48) → Int → List (S48) → Int → Int → Option (Bool)
  | 0, _, _, _, _, _, _ => none
  | k + 1, x0, x1, x2, x23, x24, x25 => if x25 < x24 then (if 0 ≤ x25 then (if x25 < (x23.length : Int) then ((impl_between.f ((rd_T48 x23 x25).f0) 0 (wrap64 ((x0.length : Int) - 1))).bind fun t232 => (if t232 = true then (if ((rd_T48 x23 x25).f1) < 0 then (impl_LegsOk.j2 k x0 x1 x2 x25 x23 x24 x25 true ((rd_T48 x23 x25).f0) ((rd_T48 x23 x25).f1) ((rd_T48 x23 x25).f2)) else (if ((rd_T48 x23 x25).f1) ≥ ((rd_T48 x23 x25).f2) then (impl_LegsOk.j2 k x0 x1 x2 x25 x23 x24 x25 true ((rd_T48 x23 x25).f0) ((rd_T48 x23 x25).f1) ((rd_T48 x23 x25).f2)) else (if 0 ≤ ((rd_T48 x23 x25).f0) then (if ((rd_T48 x23 x25).f0) < (x0.length : Int) then (impl_LegsOk.j2 k x0 x1 x2 x25 x23 x24 x25 (decide (((rd_T48 x23 x25).f2) ≥ (((rd_T46 x0 ((rd_T48 x23 x25).f0)).f1).length : Int))) ((rd_T48 x23 x25).f0) ((rd_T48 x23 x25).f1) ((rd_T48 x23 x25).f2)) else (none)) else (none)))) else (impl_LegsOk.j2 k x0 x1 x2 x25 x23 x24 x25 true ((rd_T48 x23 x25).f0) ((rd_T48 x23 x25).f1) ((rd_T48 x23 x25).f2)))) else (none)) else (none)) else (some true)
def impl_LegsOk.j2 : Nat → List (S46) → List (S48) → Int → Int → List (S48) → Int → Int → Bool → Int → Int → Int → Option (Bool)
  | 0, _, _, _, _, _, _, _, _, _, _, _ => none
  | k + 1, x0, x1, x2, x7, x23, x24, x25, x60, x232000, x232001, x232002 => if x60 = true then (some false) else (if x7 = 0 then (impl_LegsOk.l0 k x0 x1 x2 x23 x24 (wrap64 (x25 + 1))) else (if 0 ≤ (wrap64 (x7 - 1)) then (if (wrap64 (x7 - 1)) < (x1.length : Int) then (if 0 ≤ x232000 then (if x232000 < (x0.length : Int) then (if 0 ≤ x232001 then (if x232001 < (((rd_T46 x0 x232000).f1).length : Int) then ((impl_ends.f x0 ((rd_T48 x1 (wrap64 (x7 - 1))).f0) ((rd_T48 x1 (wrap64 (x7 - 1))).f1) ((rd_T48 x1 (wrap64 (x7 - 1))).f2)).bind fun t238 => (if ((rd_T43 ((rd_T46 x0 x232000).f1) x232001).f0) = t238 then ((impl_leaves.f x0 x232000 x232001 x232002).bind fun t239 => ((impl_arrives.f x0 ((rd_T48 x1 (wrap64 (x7 - 1))).f0) ((rd_T48 x1 (wrap64 (x7 - 1))).f1) ((rd_T48 x1 (wrap64 (x7 - 1))).f2)).bind fun t240 => (if t239 < (wrap64 (t240 + x2)) then (some false) else (impl_LegsOk.l0 k x0 x1 x2 x23 x24 (wrap64 (x25 + 1)))))) else (some false))) else (none)) else (none)) else (none)) else (none)) else (none)) else (none)))
end
def impl_LegsOk.f (k : Nat) (l0 : List (S46)) (l1 : List (S48)) (a2 : Int) : Option (Bool) := (impl_TableOk.f k l0).bind fun t228 => (if t228 = true then ((impl_changeOk.f a2).bind fun t229 => (if t229 = true then (impl_LegsOk.j0 k l0 l1 a2 (decide ((l1.length : Int) > 5))) else (impl_LegsOk.j0 k l0 l1 a2 true))) else (impl_LegsOk.j0 k l0 l1 a2 true))
def strconv_Itoa_63.f (a0 : Int) : Option ByteArray := if 0 ≤ a0 ∧ a0 < 1000000 then some ⟨(Lib.decDigits a0.toNat).toArray⟩ else none
def impl_twoDigits.f (a0 : Int) : Option (ByteArray) := if a0 < 10 then ((strconv_Itoa_63.f a0).bind fun t241 => (if 1 + t241.size ≤ 9223372036854775807 then (some ((⟨#[48]⟩ : ByteArray) ++ t241)) else (none))) else ((strconv_Itoa_63.f a0).bind fun t242 => (some t242))
def impl_TimeText.f (a0 : Int) : Option (ByteArray) := (impl_isMinute.f a0).bind fun t243 => (if t243 = true then ((impl_twoDigits.f (wrap64 (Int.tdiv a0 60))).bind fun t244 => (if t244.size + 1 ≤ 9223372036854775807 then ((impl_twoDigits.f (Int.tmod a0 60)).bind fun t245 => (if (t244 ++ (⟨#[58]⟩ : ByteArray)).size + t245.size ≤ 9223372036854775807 then (some ((t244 ++ (⟨#[58]⟩ : ByteArray)) ++ t245)) else (none))) else (none))) else (some (⟨#[]⟩ : ByteArray)))
mutual
def impl_JourneyText.l0 : Nat → List (S46) → ByteArray → List (S48) → Int → Int → Option (ByteArray)
  | 0, _, _, _, _, _ => none
  | k + 1, x0, x7, x15, x16, x17 => if x17 < x16 then (if 0 ≤ x17 then (if x17 < (x15.length : Int) then (if x17 > 0 then (if x7.size + 3 ≤ 9223372036854775807 then (impl_JourneyText.j1 k x0 (x7 ++ (⟨#[32, 47, 32]⟩ : ByteArray)) x15 x16 x17 ((rd_T48 x15 x17).f0) ((rd_T48 x15 x17).f1) ((rd_T48 x15 x17).f2)) else (none)) else (impl_JourneyText.j1 k x0 x7 x15 x16 x17 ((rd_T48 x15 x17).f0) ((rd_T48 x15 x17).f1) ((rd_T48 x15 x17).f2))) else (none)) else (none)) else (some x7)
def impl_JourneyText.j1 : Nat → List (S46) → ByteArray → List (S48) → Int → Int → Int → Int → Int → Option (ByteArray)
  | 0, _, _, _, _, _, _, _, _ => none
  | k + 1, x0, x7, x15, x16, x17, x249000, x249001, x249002 => if 0 ≤ x249000 then (if x249000 < (x0.length : Int) then (if ((rd_T46 x0 x249000).f0).size + 1 ≤ 9223372036854775807 then ((impl_leaves.f x0 x249000 x249001 x249002).bind fun t250 => ((impl_TimeText.f t250).bind fun t251 => (if (((rd_T46 x0 x249000).f0) ++ (⟨#[32]⟩ : ByteArray)).size + t251.size ≤ 9223372036854775807 then (if ((((rd_T46 x0 x249000).f0) ++ (⟨#[32]⟩ : ByteArray)) ++ t251).size + 1 ≤ 9223372036854775807 then ((impl_arrives.f x0 x249000 x249001 x249002).bind fun t252 => ((impl_TimeText.f t252).bind fun t253 => (if (((((rd_T46 x0 x249000).f0) ++ (⟨#[32]⟩ : ByteArray)) ++ t251) ++ (⟨#[45]⟩ : ByteArray)).size + t253.size ≤ 9223372036854775807 then (if x7.size + ((((((rd_T46 x0 x249000).f0) ++ (⟨#[32]⟩ : ByteArray)) ++ t251) ++ (⟨#[45]⟩ : ByteArray)) ++ t253).size ≤ 9223372036854775807 then (impl_JourneyText.l0 k x0 (x7 ++ ((((((rd_T46 x0 x249000).f0) ++ (⟨#[32]⟩ : ByteArray)) ++ t251) ++ (⟨#[45]⟩ : ByteArray)) ++ t253)) x15 x16 (wrap64 (x17 + 1))) else (none)) else (none)))) else (none)) else (none)))) else (none)) else (none)) else (none)
end
def impl_JourneyText.f (k : Nat) (l0 : List (S46)) (l1 : List (S48)) (a2 : Int) : Option (ByteArray) := (impl_LegsOk.f k l0 l1 a2).bind fun t246 => (if t246 = true then (impl_JourneyText.l0 k l0 (⟨#[]⟩ : ByteArray) l1 (l1.length : Int) 0) else (some (⟨#[]⟩ : ByteArray)))
def laws_eqCall.f (a0_0 : Int) (a0_1 : Int) (a0_2 : Int) (a1_0 : Int) (a1_1 : Int) (a1_2 : Int) : Option (Bool) := if a0_0 = a1_0 then (if a0_1 = a1_1 then (if a0_2 = a1_2 then (some true) else (some false)) else (some false)) else (some false)
def laws_eqCallS.l0 : Nat → List (S43) → List (S43) → Int → Option (Bool)
  | 0, _, _, _ => none
  | k + 1, x0, x1, x5 => if x5 < (x0.length : Int) then (if 0 ≤ x5 then (if x5 < (x1.length : Int) then ((laws_eqCall.f ((rd_T43 x0 x5).f0) ((rd_T43 x0 x5).f1) ((rd_T43 x0 x5).f2) ((rd_T43 x1 x5).f0) ((rd_T43 x1 x5).f1) ((rd_T43 x1 x5).f2)).bind fun t258 => (if t258 = true then (laws_eqCallS.l0 k x0 x1 (wrap64 (x5 + 1))) else (some false))) else (none)) else (none)) else (some true)
def laws_eqCallS.f (k : Nat) (l0 : List (S43)) (l1 : List (S43)) : Option (Bool) := if (l0.length : Int) = (l1.length : Int) then (laws_eqCallS.l0 k l0 l1 0) else (some false)
def laws_eqTrip.f (k : Nat) (a0_0 : ByteArray) (l0_1 : List (S43)) (a1_0 : ByteArray) (l1_1 : List (S43)) : Option (Bool) := if a0_0.toList = a1_0.toList then ((laws_eqCallS.f k l0_1 l1_1).bind fun t261 => (if t261 = true then (some true) else (some false))) else (some false)
def laws_eqTripS.l0 : Nat → List (S46) → List (S46) → Int → Option (Bool)
  | 0, _, _, _ => none
  | k + 1, x0, x1, x5 => if x5 < (x0.length : Int) then (if 0 ≤ x5 then (if x5 < (x1.length : Int) then ((laws_eqTrip.f k ((rd_T46 x0 x5).f0) ((rd_T46 x0 x5).f1) ((rd_T46 x1 x5).f0) ((rd_T46 x1 x5).f1)).bind fun t264 => (if t264 = true then (laws_eqTripS.l0 k x0 x1 (wrap64 (x5 + 1))) else (some false))) else (none)) else (none)) else (some true)
def laws_eqTripS.f (k : Nat) (l0 : List (S46)) (l1 : List (S46)) : Option (Bool) := if (l0.length : Int) = (l1.length : Int) then (laws_eqTripS.l0 k l0 l1 0) else (some false)
def laws_eqLeg.f (a0_0 : Int) (a0_1 : Int) (a0_2 : Int) (a1_0 : Int) (a1_1 : Int) (a1_2 : Int) : Option (Bool) := if a0_0 = a1_0 then (if a0_1 = a1_1 then (if a0_2 = a1_2 then (some true) else (some false)) else (some false)) else (some false)
def laws_eqLegS.l0 : Nat → List (S48) → List (S48) → Int → Option (Bool)
  | 0, _, _, _ => none
  | k + 1, x0, x1, x5 => if x5 < (x0.length : Int) then (if 0 ≤ x5 then (if x5 < (x1.length : Int) then ((laws_eqLeg.f ((rd_T48 x0 x5).f0) ((rd_T48 x0 x5).f1) ((rd_T48 x0 x5).f2) ((rd_T48 x1 x5).f0) ((rd_T48 x1 x5).f1) ((rd_T48 x1 x5).f2)).bind fun t269 => (if t269 = true then (laws_eqLegS.l0 k x0 x1 (wrap64 (x5 + 1))) else (some false))) else (none)) else (none)) else (some true)
def laws_eqLegS.f (k : Nat) (l0 : List (S48)) (l1 : List (S48)) : Option (Bool) := if (l0.length : Int) = (l1.length : Int) then (laws_eqLegS.l0 k l0 l1 0) else (some false)
def laws_FnExactJourneyText.f (k : Nat) (l0 : List (S52)) (l1 : List (S56)) (a2 : Int) : Option (Bool) := (laws_szTripS.f k l0 1048576).bind fun t270 => (if t270 < 0 then (some true) else ((laws_szLegS.f l1 t270).bind fun t271 => (if t271 < 0 then (some true) else ((laws_toTripS.f k l0).bind fun t272 => ((laws_toLegS.f k l1).bind fun t275 => ((spec_JourneyText.f k t272 t275 a2).bind fun t278 => ((laws_toTripS.f k l0).bind fun t279 => ((laws_toLegS.f k l1).bind fun t282 => ((impl_JourneyText.f k t279 t282 a2).bind fun t285 => (if t285.toList = t278.toList then ((laws_toTripS.f k l0).bind fun t286 => ((laws_eqTripS.f k t279 t286).bind fun t289 => (if t289 = true then ((laws_toLegS.f k l1).bind fun t290 => ((laws_eqLegS.f k t282 t290).bind fun t293 => (if t293 = true then (some true) else (some false)))) else (some false)))) else (some false)))))))))))
end Go.Proofs.YtdpjoblnjjkbfaaDoor.P

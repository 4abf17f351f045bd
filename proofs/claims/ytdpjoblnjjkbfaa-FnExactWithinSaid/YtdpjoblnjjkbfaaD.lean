/- The functions of the program as plain Lean functions, without memory and machine; written by a program of the session. -/
import Derived.Test.YtdpjoblnjjkbfaaProg
import Derived.Test.YtdpjoblnjjkbfaaV
namespace Go.Proofs.Ytdpjoblnjjkbfaa.P
open Go.RowKit Go.Proofs.YtdpjoblnjjkbfaaW.PrintWords Go.Proofs.YtdpjoblnjjkbfaaW.PrintLast Go.Proofs.YtdpjoblnjjkbfaaW.PrintMore
set_option linter.unusedVariables false

structure S92 where
  f0 : Int
  f1 : Int
  f2 : Int
def z92 : S92 := ⟨(0 : Int), (0 : Int), (0 : Int)⟩
def rd_T92 (xs : List S92) (i : Int) : S92 := xs.getD i.toNat z92
def rd_L3 (xs : List (List S92)) (i : Int) : (List S92) := xs.getD i.toNat ([] : List S92)
structure S47 where
  f0 : ByteArray
  f1 : (List S92)
def z47 : S47 := ⟨(⟨#[]⟩ : ByteArray), ([] : List S92)⟩
def rd_T47 (xs : List S47) (i : Int) : S47 := xs.getD i.toNat z47
structure S67 where
  f0 : Int
  f1 : Int
  f2 : Int
def z67 : S67 := ⟨(0 : Int), (0 : Int), (0 : Int)⟩
def rd_T67 (xs : List S67) (i : Int) : S67 := xs.getD i.toNat z67
def rd_L6 (xs : List (List S67)) (i : Int) : (List S67) := xs.getD i.toNat ([] : List S67)
structure S51 where
  f0 : ByteArray
  f1 : (List S67)
def z51 : S51 := ⟨(⟨#[]⟩ : ByteArray), ([] : List S67)⟩
def rd_T51 (xs : List S51) (i : Int) : S51 := xs.getD i.toNat z51
def rd_L9 (xs : List (List S47)) (i : Int) : (List S47) := xs.getD i.toNat ([] : List S47)
def laws_szCallS.f (l0 : List (S92)) (a1 : Int) : Option (Int) := if (wrap64 (a1 - (l0.length : Int))) < 0 then (some (-1)) else (some (wrap64 (a1 - (l0.length : Int))))
def laws_szTrip.f (a0_0 : ByteArray) (l0_1 : List (S92)) (a1 : Int) : Option (Int) := if (wrap64 (a1 - (a0_0.size : Int))) < 0 then (some (-1)) else ((laws_szCallS.f l0_1 (wrap64 (a1 - (a0_0.size : Int)))).bind fun t102 => (if t102 < 0 then (some (-1)) else (some t102)))
def laws_szTripS.l0 : Nat → List (S47) → Int → Int → Option (Int)
  | 0, _, _, _ => none
  | k + 1, x0, x1, x5 => if x5 < (x0.length : Int) then (if 0 ≤ x5 then ((laws_szTrip.f ((rd_T47 x0 x5).f0) ((rd_T47 x0 x5).f1) x1).bind fun t104 => (if t104 < 0 then (some (-1)) else (laws_szTripS.l0 k x0 t104 (wrap64 (x5 + 1))))) else (none)) else (some x1)
def laws_szTripS.f (k : Nat) (l0 : List (S47)) (a1 : Int) : Option (Int) := if (wrap64 (a1 - (l0.length : Int))) < 0 then (some (-1)) else (laws_szTripS.l0 k l0 (wrap64 (a1 - (l0.length : Int))) 0)
def laws_toCall.f (a0_0 : Int) (a0_1 : Int) (a0_2 : Int) : Option (Int × Int × Int) := some (a0_0, a0_1, a0_2)
def laws_toCallS.l0 : Nat → List (S92) → List (S67) → Int → Option ((List (S67)))
  | 0, _, _, _ => none
  | k + 1, x0, x3, x4 => if x4 < (x0.length : Int) then (if 0 ≤ x4 then ((laws_toCall.f ((rd_T92 x0 x4).f0) ((rd_T92 x0 x4).f1) ((rd_T92 x0 x4).f2)).bind fun bt112 => (if x4 < (x3.length : Int) then (laws_toCallS.l0 k x0 (x3.set (x4 : Int).toNat (⟨bt112.1, bt112.2.1, bt112.2.2⟩ : S67)) (wrap64 (x4 + 1))) else (none))) else (none)) else (some x3)
def laws_toCallS.f (k : Nat) (l0 : List (S92)) : Option ((List (S67))) := if 0 ≤ (l0.length : Int) then (if ((l0.length : Int) : Int).toNat ≤ 11728124029610 then (laws_toCallS.l0 k l0 (List.replicate ((l0.length : Int) : Int).toNat z67) 0) else (none)) else (none)
def laws_toTrip.f (k : Nat) (a0_0 : ByteArray) (l0_1 : List (S92)) : Option (ByteArray × (List (S67))) := (laws_toCallS.f k l0_1).bind fun t119 => (some (a0_0, t119))
def laws_toTripS.l0 : Nat → List (S47) → List (S51) → Int → Option ((List (S51)))
  | 0, _, _, _ => none
  | k + 1, x0, x3, x4 => if x4 < (x0.length : Int) then (if 0 ≤ x4 then ((laws_toTrip.f k ((rd_T47 x0 x4).f0) ((rd_T47 x0 x4).f1)).bind fun bt126 => (if x4 < (x3.length : Int) then (laws_toTripS.l0 k x0 (x3.set (x4 : Int).toNat (⟨bt126.1, bt126.2⟩ : S51)) (wrap64 (x4 + 1))) else (none))) else (none)) else (some x3)
def laws_toTripS.f (k : Nat) (l0 : List (S47)) : Option ((List (S51))) := if 0 ≤ (l0.length : Int) then (if ((l0.length : Int) : Int).toNat ≤ 7036874417766 then (laws_toTripS.l0 k l0 (List.replicate ((l0.length : Int) : Int).toNat z51) 0) else (none)) else (none)
def laws_eqCall.f (a0_0 : Int) (a0_1 : Int) (a0_2 : Int) (a1_0 : Int) (a1_1 : Int) (a1_2 : Int) : Option (Bool) := if a0_0 = a1_0 then (if a0_1 = a1_1 then (if a0_2 = a1_2 then (some true) else (some false)) else (some false)) else (some false)
def laws_eqCallS.l0 : Nat → List (S67) → List (S67) → Int → Option (Bool)
  | 0, _, _, _ => none
  | k + 1, x0, x1, x5 => if x5 < (x0.length : Int) then (if 0 ≤ x5 then (if x5 < (x1.length : Int) then ((laws_eqCall.f ((rd_T67 x0 x5).f0) ((rd_T67 x0 x5).f1) ((rd_T67 x0 x5).f2) ((rd_T67 x1 x5).f0) ((rd_T67 x1 x5).f1) ((rd_T67 x1 x5).f2)).bind fun t135 => (if t135 = true then (laws_eqCallS.l0 k x0 x1 (wrap64 (x5 + 1))) else (some false))) else (none)) else (none)) else (some true)
def laws_eqCallS.f (k : Nat) (l0 : List (S67)) (l1 : List (S67)) : Option (Bool) := if (l0.length : Int) = (l1.length : Int) then (laws_eqCallS.l0 k l0 l1 0) else (some false)
def laws_eqTrip.f (k : Nat) (a0_0 : ByteArray) (l0_1 : List (S67)) (a1_0 : ByteArray) (l1_1 : List (S67)) : Option (Bool) := if a0_0.toList = a1_0.toList then ((laws_eqCallS.f k l0_1 l1_1).bind fun t138 => (if t138 = true then (some true) else (some false))) else (some false)
def laws_eqTripS.l0 : Nat → List (S51) → List (S51) → Int → Option (Bool)
  | 0, _, _, _ => none
  | k + 1, x0, x1, x5 => if x5 < (x0.length : Int) then (if 0 ≤ x5 then (if x5 < (x1.length : Int) then ((laws_eqTrip.f k ((rd_T51 x0 x5).f0) ((rd_T51 x0 x5).f1) ((rd_T51 x1 x5).f0) ((rd_T51 x1 x5).f1)).bind fun t141 => (if t141 = true then (laws_eqTripS.l0 k x0 x1 (wrap64 (x5 + 1))) else (some false))) else (none)) else (none)) else (some true)
def laws_eqTripS.f (k : Nat) (l0 : List (S51)) (l1 : List (S51)) : Option (Bool) := if (l0.length : Int) = (l1.length : Int) then (laws_eqTripS.l0 k l0 l1 0) else (some false)
def spec_l01In.f (a0 : Int) (a1 : Int) (a2 : Int) : Option (Bool) := if a1 ≤ a0 then (some (decide (a0 ≤ a2))) else (some false)
def spec_l01Name.l0 : Nat → ByteArray → Int → Option (Bool)
  | 0, _, _ => none
  | k + 1, x0, x3 => if x3 < (x0.size : Int) then (if 0 ≤ x3 then (if (bt x0 x3) ≥ 97 then (if ((bt x0 x3) ≤ 122) then (spec_l01Name.l0 k x0 (wrap64 (x3 + 1))) else (if (bt x0 x3) ≥ 48 then (if ((bt x0 x3) ≤ 57) then (spec_l01Name.l0 k x0 (wrap64 (x3 + 1))) else (some false)) else (some false))) else (if (bt x0 x3) ≥ 48 then (if ((bt x0 x3) ≤ 57) then (spec_l01Name.l0 k x0 (wrap64 (x3 + 1))) else (some false)) else (some false))) else (none)) else ((spec_l01In.f (x0.size : Int) 1 12).bind fun t142 => (some t142))
def spec_l01Name.f (k : Nat) (a0 : ByteArray) : Option (Bool) := spec_l01Name.l0 k a0 0
mutual
def spec_TripOk.j0 : Nat → Bool → ByteArray → List (S67) → Option (Bool)
  | 0, _, _, _ => none
  | k + 1, x15, x144000, x144001 => if x15 = true then (some false) else (spec_TripOk.l0 k 0 x144000 x144001)
def spec_TripOk.l0 : Nat → Int → ByteArray → List (S67) → Option (Bool)
  | 0, _, _, _ => none
  | k + 1, x3, x144000, x144001 => if x3 < (x144001.length : Int) then (if 0 ≤ x3 then ((spec_l01In.f ((rd_T67 x144001 x3).f0) 0 29).bind fun t148 => (if t148 = true then ((spec_l01In.f ((rd_T67 x144001 x3).f2) 0 100000).bind fun t149 => (if t149 = true then ((spec_l01In.f ((rd_T67 x144001 x3).f1) 0 ((rd_T67 x144001 x3).f2)).bind fun t150 => (spec_TripOk.j2 k x3 (!t150) x144000 x144001 ((rd_T67 x144001 x3).f0) ((rd_T67 x144001 x3).f1) ((rd_T67 x144001 x3).f2))) else (spec_TripOk.j2 k x3 true x144000 x144001 ((rd_T67 x144001 x3).f0) ((rd_T67 x144001 x3).f1) ((rd_T67 x144001 x3).f2)))) else (spec_TripOk.j2 k x3 true x144000 x144001 ((rd_T67 x144001 x3).f0) ((rd_T67 x144001 x3).f1) ((rd_T67 x144001 x3).f2)))) else (none)) else (some true)
def spec_TripOk.j2 : Nat → Int → Bool → ByteArray → List (S67) → Int → Int → Int → Option (Bool)
  | 0, _, _, _, _, _, _, _ => none
  | k + 1, x3, x45, x144000, x144001, x148000, x148001, x148002 => if x45 = true then (some false) else (if x3 > 0 then (if 0 ≤ (wrap64 (x3 - 1)) then (if (wrap64 (x3 - 1)) < (x144001.length : Int) then (if ((rd_T67 x144001 (wrap64 (x3 - 1))).f2) ≥ x148001 then (some false) else (if ((rd_T67 x144001 (wrap64 (x3 - 1))).f0) = x148000 then (some false) else (spec_TripOk.l0 k (wrap64 (x3 + 1)) x144000 x144001))) else (none)) else (none)) else (spec_TripOk.l0 k (wrap64 (x3 + 1)) x144000 x144001))
end
def spec_TripOk.f (k : Nat) (a0_0 : ByteArray) (l0_1 : List (S67)) : Option (Bool) := (spec_l01Name.f k a0_0).bind fun t144 => (if t144 = true then ((spec_l01In.f (l0_1.length : Int) 2 12).bind fun t145 => (spec_TripOk.j0 k (!t145) a0_0 l0_1)) else (spec_TripOk.j0 k true a0_0 l0_1))
mutual
def spec_TableOk.l0 : Nat → List (S51) → Int → Option (Bool)
  | 0, _, _ => none
  | k + 1, x0, x3 => if x3 < (x0.length : Int) then (if 0 ≤ x3 then ((spec_TripOk.f k ((rd_T51 x0 x3).f0) ((rd_T51 x0 x3).f1)).bind fun t154 => (if t154 = true then (spec_TableOk.l1 k x0 x3 0) else (some false))) else (none)) else (some true)
def spec_TableOk.l1 : Nat → List (S51) → Int → Int → Option (Bool)
  | 0, _, _, _ => none
  | k + 1, x0, x3, x4 => if x4 < x3 then (if 0 ≤ x4 then (if x4 < (x0.length : Int) then (if 0 ≤ x3 then (if x3 < (x0.length : Int) then (if ((rd_T51 x0 x4).f0).toList = ((rd_T51 x0 x3).f0).toList then (some false) else (spec_TableOk.l1 k x0 x3 (wrap64 (x4 + 1)))) else (none)) else (none)) else (none)) else (none)) else (spec_TableOk.l0 k x0 (wrap64 (x3 + 1)))
end
def spec_TableOk.f (k : Nat) (l0 : List (S51)) : Option (Bool) := if (l0.length : Int) > 24 then (some false) else (spec_TableOk.l0 k l0 0)
def spec_l12Change.f (a0 : Int) : Option (Bool) := (spec_l01In.f a0 0 60).bind fun t157 => (some t157)
def spec_l12Asked.f (k : Nat) (l0 : List (S51)) (a1 : Int) (a2 : Int) (a3 : Int) (a4 : Int) (a5 : Int) : Option (Bool) := (spec_TableOk.f k l0).bind fun t158 => (if t158 = true then ((spec_l01In.f a1 0 29).bind fun t159 => (if t159 = true then ((spec_l01In.f a2 0 29).bind fun t160 => (if t160 = true then ((spec_l01In.f a3 0 100000).bind fun t161 => (if t161 = true then ((spec_l12Change.f a4).bind fun t162 => (if t162 = true then ((spec_l01In.f a5 0 5).bind fun t163 => (some t163)) else (some false))) else (some false))) else (some false))) else (some false))) else (some false))
def spec_l01Copy.l0 : Nat → List Int → List Int → Int → Option (List Int)
  | 0, _, _, _ => none
  | k + 1, x0, x3, x4 => if x4 < (x0.length : Int) then (if 0 ≤ x4 then (if x3.length < 17592186044416 then (spec_l01Copy.l0 k x0 (x3 ++ [rd x0 x4]) (wrap64 (x4 + 1))) else (none)) else (none)) else (some x3)
def spec_l01Copy.f (k : Nat) (l0 : List Int) : Option (List Int) := spec_l01Copy.l0 k l0 (([] : List Int)) 0
mutual
def spec_l12Reach.l0 : Nat → List (S51) → Int → Int → Int → Int → List Int → Int → Option (List Int)
  | 0, _, _, _, _, _, _, _ => none
  | k + 1, x0, x1, x2, x3, x4, x11, x12 => if x12 < 30 then (if x11.length < 17592186044416 then (spec_l12Reach.l0 k x0 x1 x2 x3 x4 (x11 ++ [(-1)]) (wrap64 (x12 + 1))) else (none)) else (if 0 ≤ x1 then (if x1 < (x11.length : Int) then (spec_l12Reach.l1 k x0 x1 x3 x4 (x11.set (x1 : Int).toNat x2) 0) else (none)) else (none))
def spec_l12Reach.l1 : Nat → List (S51) → Int → Int → Int → List Int → Int → Option (List Int)
  | 0, _, _, _, _, _, _ => none
  | k + 1, x0, x1, x3, x4, x11, x13 => if x13 < x4 then ((spec_l01Copy.f k x11).bind fun t178 => (spec_l12Reach.l2 k x0 x1 x3 x4 x11 x13 t178 0)) else (some x11)
def spec_l12Reach.l2 : Nat → List (S51) → Int → Int → Int → List Int → Int → List Int → Int → Option (List Int)
  | 0, _, _, _, _, _, _, _, _ => none
  | k + 1, x0, x1, x3, x4, x11, x13, x14, x15 => if x15 < (x0.length : Int) then (if 0 ≤ x15 then (spec_l12Reach.l3 k x0 x1 x3 x4 x11 x13 x14 x15 ((rd_T51 x0 x15).f1) 0) else (none)) else (spec_l12Reach.l1 k x0 x1 x3 x4 x14 (wrap64 (x13 + 1)))
def spec_l12Reach.l3 : Nat → List (S51) → Int → Int → Int → List Int → Int → List Int → Int → List (S67) → Int → Option (List Int)
  | 0, _, _, _, _, _, _, _, _, _, _ => none
  | k + 1, x0, x1, x3, x4, x11, x13, x14, x15, x16, x17 => if x17 < (x16.length : Int) then (if 0 ≤ x17 then (if 0 ≤ ((rd_T67 x16 x17).f0) then (if ((rd_T67 x16 x17).f0) < (x11.length : Int) then (if ((rd_T67 x16 x17).f0) = x1 then (spec_l12Reach.j4 k x0 x1 x3 x4 x11 x13 x14 x15 x16 x17 (rd x11 ((rd_T67 x16 x17).f0)) 0) else (spec_l12Reach.j4 k x0 x1 x3 x4 x11 x13 x14 x15 x16 x17 (rd x11 ((rd_T67 x16 x17).f0)) x3)) else (none)) else (none)) else (none)) else (spec_l12Reach.l2 k x0 x1 x3 x4 x11 x13 x14 (wrap64 (x15 + 1)))
def spec_l12Reach.j4 : Nat → List (S51) → Int → Int → Int → List Int → Int → List Int → Int → List (S67) → Int → Int → Int → Option (List Int)
  | 0, _, _, _, _, _, _, _, _, _, _, _, _ => none
  | k + 1, x0, x1, x3, x4, x11, x13, x14, x15, x16, x17, x18, x19 => if x18 < 0 then (spec_l12Reach.j5 k x0 x1 x3 x4 x11 x13 x14 x15 x16 x17 true) else (if 0 ≤ x17 then (if x17 < (x16.length : Int) then (spec_l12Reach.j5 k x0 x1 x3 x4 x11 x13 x14 x15 x16 x17 (decide (((rd_T67 x16 x17).f2) < (wrap64 (x18 + x19))))) else (none)) else (none))
def spec_l12Reach.j5 : Nat → List (S51) → Int → Int → Int → List Int → Int → List Int → Int → List (S67) → Int → Bool → Option (List Int)
  | 0, _, _, _, _, _, _, _, _, _, _, _ => none
  | k + 1, x0, x1, x3, x4, x11, x13, x14, x15, x16, x17, x86 => if x86 = true then (spec_l12Reach.l3 k x0 x1 x3 x4 x11 x13 x14 x15 x16 (wrap64 (x17 + 1))) else (spec_l12Reach.l4 k x0 x1 x3 x4 x11 x13 x14 x15 x16 x17 (wrap64 (x17 + 1)))
def spec_l12Reach.l4 : Nat → List (S51) → Int → Int → Int → List Int → Int → List Int → Int → List (S67) → Int → Int → Option (List Int)
  | 0, _, _, _, _, _, _, _, _, _, _, _ => none
  | k + 1, x0, x1, x3, x4, x11, x13, x14, x15, x16, x17, x20 => if x20 < (x16.length : Int) then (if 0 ≤ x20 then (if 0 ≤ ((rd_T67 x16 x20).f0) then (if ((rd_T67 x16 x20).f0) < (x14.length : Int) then (if (rd x14 ((rd_T67 x16 x20).f0)) < 0 then (spec_l12Reach.l4 k x0 x1 x3 x4 x11 x13 (x14.set (((rd_T67 x16 x20).f0) : Int).toNat ((rd_T67 x16 x20).f1)) x15 x16 x17 (wrap64 (x20 + 1))) else (if ((rd_T67 x16 x20).f1) < (rd x14 ((rd_T67 x16 x20).f0)) then (spec_l12Reach.l4 k x0 x1 x3 x4 x11 x13 (x14.set (((rd_T67 x16 x20).f0) : Int).toNat ((rd_T67 x16 x20).f1)) x15 x16 x17 (wrap64 (x20 + 1))) else (spec_l12Reach.l4 k x0 x1 x3 x4 x11 x13 x14 x15 x16 x17 (wrap64 (x20 + 1))))) else (none)) else (none)) else (none)) else (spec_l12Reach.l3 k x0 x1 x3 x4 x11 x13 x14 x15 x16 (wrap64 (x17 + 1)))
end
def spec_l12Reach.f (k : Nat) (l0 : List (S51)) (a1 : Int) (a2 : Int) (a3 : Int) (a4 : Int) : Option (List Int) := spec_l12Reach.l0 k l0 a1 a2 a3 a4 (([] : List Int)) 0
def spec_Within.l0 : Nat → List Int → List Int → Int → Option (List Int)
  | 0, _, _, _ => none
  | k + 1, x11, x12, x13 => if x13 < (x12.length : Int) then (if 0 ≤ x13 then (if (rd x12 x13) ≥ 0 then (if x11.length < 17592186044416 then (spec_Within.l0 k (x11 ++ [x13]) x12 (wrap64 (x13 + 1))) else (none)) else (spec_Within.l0 k x11 x12 (wrap64 (x13 + 1)))) else (none)) else (some x11)
def spec_Within.f (k : Nat) (l0 : List (S51)) (a1 : Int) (a2 : Int) (a3 : Int) (a4 : Int) : Option (List Int) := (spec_l12Asked.f k l0 a1 a1 a2 a3 a4).bind fun t195 => (if t195 = true then ((spec_l12Reach.f k l0 a1 a2 a3 a4).bind fun t199 => (spec_Within.l0 k (([] : List Int)) t199 0)) else (some ([] : List Int)))
def impl_between.f (a0 : Int) (a1 : Int) (a2 : Int) : Option (Bool) := if a0 ≥ a1 then (some (decide (a0 ≤ a2))) else (some false)
def impl_isMinute.f (a0 : Int) : Option (Bool) := (impl_between.f a0 0 100000).bind fun t206 => (some t206)
mutual
def impl_nameOk.j0 : Nat → ByteArray → Bool → Option (Bool)
  | 0, _, _ => none
  | k + 1, x0, x11 => if x11 = true then (some false) else (impl_nameOk.l0 k x0 0)
def impl_nameOk.l0 : Nat → ByteArray → Int → Option (Bool)
  | 0, _, _ => none
  | k + 1, x0, x3 => if x3 < (x0.size : Int) then (if 0 ≤ x3 then (if (bt x0 x3) < 97 then (if (bt x0 x3) < 48 then (some false) else (if (bt x0 x3) > 57 then (some false) else (impl_nameOk.l0 k x0 (wrap64 (x3 + 1))))) else (if (bt x0 x3) > 122 then (if (bt x0 x3) < 48 then (some false) else (if (bt x0 x3) > 57 then (some false) else (impl_nameOk.l0 k x0 (wrap64 (x3 + 1))))) else (impl_nameOk.l0 k x0 (wrap64 (x3 + 1))))) else (none)) else (some true)
end
def impl_nameOk.f (k : Nat) (a0 : ByteArray) : Option (Bool) := if (a0.size : Int) < 1 then (impl_nameOk.j0 k a0 true) else (impl_nameOk.j0 k a0 (decide ((a0.size : Int) > 12)))
mutual
def impl_TripOk.j0 : Nat → Bool → ByteArray → List (S67) → Option (Bool)
  | 0, _, _, _ => none
  | k + 1, x15, x208000, x208001 => if x15 = true then (some false) else (impl_TripOk.l0 k x208001 (x208001.length : Int) 0 x208000 x208001)
def impl_TripOk.l0 : Nat → List (S67) → Int → Int → ByteArray → List (S67) → Option (Bool)
  | 0, _, _, _, _, _ => none
  | k + 1, x17, x18, x19, x208000, x208001 => if x19 < x18 then (if 0 ≤ x19 then (if x19 < (x17.length : Int) then ((impl_between.f ((rd_T67 x17 x19).f0) 0 29).bind fun t212 => (if t212 = true then ((impl_isMinute.f ((rd_T67 x17 x19).f1)).bind fun t213 => (if t213 = true then ((impl_isMinute.f ((rd_T67 x17 x19).f2)).bind fun t214 => (if t214 = true then (impl_TripOk.j2 k x19 x17 x18 x19 (decide (((rd_T67 x17 x19).f1) > ((rd_T67 x17 x19).f2))) x208000 x208001 ((rd_T67 x17 x19).f0) ((rd_T67 x17 x19).f1) ((rd_T67 x17 x19).f2)) else (impl_TripOk.j2 k x19 x17 x18 x19 true x208000 x208001 ((rd_T67 x17 x19).f0) ((rd_T67 x17 x19).f1) ((rd_T67 x17 x19).f2)))) else (impl_TripOk.j2 k x19 x17 x18 x19 true x208000 x208001 ((rd_T67 x17 x19).f0) ((rd_T67 x17 x19).f1) ((rd_T67 x17 x19).f2)))) else (impl_TripOk.j2 k x19 x17 x18 x19 true x208000 x208001 ((rd_T67 x17 x19).f0) ((rd_T67 x17 x19).f1) ((rd_T67 x17 x19).f2)))) else (none)) else (none)) else (some true)
def impl_TripOk.j2 : Nat → Int → List (S67) → Int → Int → Bool → ByteArray → List (S67) → Int → Int → Int → Option (Bool)
  | 0, _, _, _, _, _, _, _, _, _, _ => none
  | k + 1, x3, x17, x18, x19, x46, x208000, x208001, x212000, x212001, x212002 => if x46 = true then (some false) else (if x3 > 0 then (if 0 ≤ (wrap64 (x3 - 1)) then (if (wrap64 (x3 - 1)) < (x208001.length : Int) then (if x212001 ≤ ((rd_T67 x208001 (wrap64 (x3 - 1))).f2) then (some false) else (if x212000 = ((rd_T67 x208001 (wrap64 (x3 - 1))).f0) then (some false) else (impl_TripOk.l0 k x17 x18 (wrap64 (x19 + 1)) x208000 x208001))) else (none)) else (none)) else (impl_TripOk.l0 k x17 x18 (wrap64 (x19 + 1)) x208000 x208001))
end
def impl_TripOk.f (k : Nat) (a0_0 : ByteArray) (l0_1 : List (S67)) : Option (Bool) := (impl_nameOk.f k a0_0).bind fun t208 => (if t208 = true then ((impl_between.f (l0_1.length : Int) 2 12).bind fun t209 => (impl_TripOk.j0 k (!t209) a0_0 l0_1)) else (impl_TripOk.j0 k true a0_0 l0_1))
def impl_tripNamed.l0 (l0 : List S51) (a1 : ByteArray) : Int := if l0.findIdx (fun x => x.f0.toList == a1.toList) < l0.length then (l0.findIdx (fun x => x.f0.toList == a1.toList) : Int) else -1
def impl_tripNamed.f (l0 : List S51) (a1 : ByteArray) : Option Int := if l0.length ≤ 1000 then some (impl_tripNamed.l0 l0 a1) else none
def impl_TableOk.l0 : Nat → List (S51) → List (S51) → Int → Int → Option (Bool)
  | 0, _, _, _, _ => none
  | k + 1, x0, x8, x9, x10 => if x10 < x9 then (if 0 ≤ x10 then (if x10 < (x8.length : Int) then ((impl_TripOk.f k ((rd_T51 x8 x10).f0) ((rd_T51 x8 x10).f1)).bind fun t219 => (if t219 = true then (if x10 ≤ (x0.length : Int) then ((impl_tripNamed.f (x0.take (x10 : Int).toNat) ((rd_T51 x8 x10).f0)).bind fun t224 => (if t224 ≥ 0 then (some false) else (impl_TableOk.l0 k x0 x8 x9 (wrap64 (x10 + 1))))) else (none)) else (some false))) else (none)) else (none)) else (some true)
def impl_TableOk.f (k : Nat) (l0 : List (S51)) : Option (Bool) := if (l0.length : Int) > 24 then (some false) else (impl_TableOk.l0 k l0 l0 (l0.length : Int) 0)
def impl_changeOk.f (a0 : Int) : Option (Bool) := (impl_between.f a0 0 60).bind fun t225 => (some t225)
def impl_questionOk.j0 : Nat → Int → Int → Int → Bool → Option (Bool)
  | 0, _, _, _, _ => none
  | k + 1, x3, x4, x5, x25 => if x25 = true then (some false) else ((impl_isMinute.f x3).bind fun t229 => (if t229 = true then ((impl_changeOk.f x4).bind fun t230 => (if t230 = true then ((impl_between.f x5 0 5).bind fun t231 => (some t231)) else (some false))) else (some false)))
def impl_questionOk.f (k : Nat) (l0 : List (S51)) (a1 : Int) (a2 : Int) (a3 : Int) (a4 : Int) (a5 : Int) : Option (Bool) := (impl_TableOk.f k l0).bind fun t226 => (if t226 = true then ((impl_between.f a1 0 29).bind fun t227 => (if t227 = true then ((impl_between.f a2 0 29).bind fun t228 => (impl_questionOk.j0 k a3 a4 a5 (!t228))) else (impl_questionOk.j0 k a3 a4 a5 true))) else (impl_questionOk.j0 k a3 a4 a5 true))
def impl_arrivals.l0 (h : Nat) (wait : Int) (s : List Int × Bool) (c : S67) : List Int × Bool :=
  let o1 := if s.2 = true then s.1.set ((h + 1) * 30 + c.f0.toNat) (min (s.1.getD ((h + 1) * 30 + c.f0.toNat) 0) c.f1) else s.1
  (o1, s.2 || (decide (o1.getD (h * 30 + c.f0.toNat) 0 < 100001) && decide (o1.getD (h * 30 + c.f0.toNat) 0 + wait ≤ c.f2)))
def impl_arrivals.l1 (h : Nat) (wait : Int) (o : List Int) (t : S51) : List Int := (t.f1.foldl (impl_arrivals.l0 h wait) (o, false)).1
def impl_arrivals.l2 (l : List S51) (ch : Int) : Nat → List Int → List Int
  | 0, o => o
  | h + 1, o => l.foldl (impl_arrivals.l1 h (if h = 0 then 0 else ch)) (impl_arrivals.l2 l ch h o)
def impl_arrivals.l3 (l : List S51) (fr mi ch : Int) (hops : Nat) : List Int := impl_arrivals.l2 l ch hops ((List.replicate ((hops + 1) * 30) 100001).set fr.toNat mi)
def impl_arrivals.l4 (l : List S51) : Bool := decide (l.length ≤ 24) && l.all (fun t => decide (t.f1.length ≤ 12) && t.f1.all (fun c => decide (0 ≤ c.f0) && decide (c.f0 < 30) && decide (0 ≤ c.f1) && decide (c.f1 ≤ 100000) && decide (0 ≤ c.f2) && decide (c.f2 ≤ 100000)))
def impl_Within.l0 (o : List Int) (i : Nat) : Nat → Bool
  | 0 => false
  | h + 1 => impl_Within.l0 o i h || decide (o.getD (h * 30 + i) 0 < 100001)
def impl_Within.l1 (o : List Int) (H : Nat) : Nat → List Int
  | 0 => []
  | i + 1 => if impl_Within.l0 o i H = true then impl_Within.l1 o H i ++ [(i : Int)] else impl_Within.l1 o H i
def impl_Within.l2 (l0 : List S51) (a1 : Int) (a2 : Int) (a3 : Int) (a4 : Int) : Option (List Int) := if impl_arrivals.l4 l0 = true ∧ 0 ≤ a1 ∧ a1 < 30 ∧ 0 ≤ a2 ∧ a2 ≤ 100000 ∧ 0 ≤ a3 ∧ a3 ≤ 60 ∧ 0 ≤ a4 ∧ a4 ≤ 5 then some (impl_Within.l1 (impl_arrivals.l3 l0 a1 a2 a3 a4.toNat) (a4.toNat + 1) 30) else none
def impl_Within.f (k : Nat) (l0 : List S51) (a1 : Int) (a2 : Int) (a3 : Int) (a4 : Int) : Option (List Int) := (impl_questionOk.f k l0 a1 a1 a2 a3 a4).bind fun t => if t = true then impl_Within.l2 l0 a1 a2 a3 a4 else some []
def laws_eqIntS.l0 : Nat → List Int → List Int → Int → Option (Bool)
  | 0, _, _, _ => none
  | k + 1, x0, x1, x5 => if x5 < (x0.length : Int) then (if 0 ≤ x5 then (if x5 < (x1.length : Int) then (if (rd x0 x5) = (rd x1 x5) then (laws_eqIntS.l0 k x0 x1 (wrap64 (x5 + 1))) else (some false)) else (none)) else (none)) else (some true)
def laws_eqIntS.f (k : Nat) (l0 : List Int) (l1 : List Int) : Option (Bool) := if (l0.length : Int) = (l1.length : Int) then (laws_eqIntS.l0 k l0 l1 0) else (some false)
def laws_markText.l0 : Nat → Int → ByteArray → Option (ByteArray)
  | 0, _, _ => none
  | k + 1, x0, x3 => if x0 > 0 then ((some (([(wrap64 (48 + (Int.tmod x0 10))) % 256] : List Int) : List Int)).bind fun y234 => (if (strOfNums y234).size + x3.size ≤ 9223372036854775807 then (laws_markText.l0 k (wrap64 (Int.tdiv x0 10)) ((strOfNums y234) ++ x3)) else (none))) else (if 1 + x3.size ≤ 9223372036854775807 then (some ((⟨#[109]⟩ : ByteArray) ++ x3)) else (none))
def laws_markText.f (k : Nat) (a0 : Int) : Option (ByteArray) := if a0 ≤ 0 then (some (⟨#[109, 48]⟩ : ByteArray)) else (laws_markText.l0 k a0 (⟨#[]⟩ : ByteArray))
def laws_markCallS.l0 : Nat → List (S67) → Int → Int → Option (Int × (List (S67)))
  | 0, _, _, _ => none
  | k + 1, x0, x1, x5 => if x5 < (x0.length : Int) then (if 0 ≤ x5 then ((some (x0.set (x5 : Int).toNat (⟨x1, (rd_T67 x0 x5).f1, (rd_T67 x0 x5).f2⟩ : S67) : List (S67))).bind fun y237 => ((some (y237.set (x5 : Int).toNat (⟨(rd_T67 y237 x5).f0, wrap64 (x1 + 1), (rd_T67 y237 x5).f2⟩ : S67) : List (S67))).bind fun y238 => (laws_markCallS.l0 k (y238.set (x5 : Int).toNat (⟨(rd_T67 y238 x5).f0, (rd_T67 y238 x5).f1, wrap64 ((wrap64 (x1 + 1)) + 1)⟩ : S67)) (wrap64 ((wrap64 ((wrap64 (x1 + 1)) + 1)) + 1)) (wrap64 (x5 + 1))))) else (none)) else (some (x1, x0))
def laws_markCallS.f (k : Nat) (l0 : List (S67)) (a1 : Int) : Option (Int × (List (S67))) := laws_markCallS.l0 k l0 a1 0
def laws_markTripS.l0 : Nat → List S51 → Int → Int → Option Int
  | 0, _, _, _ => none
  | k + 1, x0, x1, x5 => if x5 < (x0.length : Int) then (if 0 ≤ x5 then ((laws_markText.f k x1).bind fun t => ((laws_markCallS.f k ((rd_T51 x0 x5).f1) (wrap64 (x1 + 1))).bind fun b => laws_markTripS.l0 k (x0.set (x5 : Int).toNat (⟨t, b.2⟩ : S51)) b.1 (wrap64 (x5 + 1)))) else none) else some x1
def laws_markTripS.f (k : Nat) (l0 : List S51) (a1 : Int) : Option Int := laws_markTripS.l0 k l0 a1 0
def laws_markIntS.l0 : Nat → List Int → Int → Int → Option (Int × List Int)
  | 0, _, _, _ => none
  | k + 1, x0, x1, x5 => if x5 < (x0.length : Int) then (if 0 ≤ x5 then (laws_markIntS.l0 k (x0.set (x5 : Int).toNat x1) (wrap64 (x1 + 1)) (wrap64 (x5 + 1))) else (none)) else (some (x1, x0))
def laws_markIntS.f (k : Nat) (l0 : List Int) (a1 : Int) : Option (Int × List Int) := laws_markIntS.l0 k l0 a1 0
def laws_heldIntS.l0 : Nat → List Int → Int → Int → Option (Int)
  | 0, _, _, _ => none
  | k + 1, x0, x1, x5 => if x5 < (x0.length : Int) then (if 0 ≤ x5 then (if (rd x0 x5) = x1 then (laws_heldIntS.l0 k x0 (wrap64 (x1 + 1)) (wrap64 (x5 + 1))) else (some (-1))) else (none)) else (some x1)
def laws_heldIntS.f (k : Nat) (l0 : List Int) (a1 : Int) : Option (Int) := laws_heldIntS.l0 k l0 a1 0
def laws_FnExactWithin.j0 : Nat → List (S47) → Int → Int → Int → Int → List Int → List Int → Bool → Option (Bool)
  | 0, _, _, _, _, _, _, _, _ => none
  | k + 1, x0, x1, x2, x3, x4, x12, x14, x58 => if x58 = true then (some false) else ((laws_markIntS.f k x14 1).bind fun bt262 => ((laws_heldIntS.f k bt262.2 1).bind fun t264 => (if t264 < 0 then (some false) else (if t264 = bt262.1 then ((laws_toTripS.f k x0).bind fun t265 => ((impl_Within.f k t265 x1 x2 x3 x4).bind fun t268 => ((laws_eqIntS.f k t268 x12).bind fun t271 => (if t271 = true then ((laws_heldIntS.f k bt262.2 1).bind fun t272 => (if t272 < 0 then (some false) else (if t272 = bt262.1 then (some true) else (some false)))) else (some false))))) else (some false)))))
def laws_FnExactWithin.f (k : Nat) (l0 : List (S47)) (a1 : Int) (a2 : Int) (a3 : Int) (a4 : Int) : Option (Bool) := (laws_szTripS.f k l0 1048576).bind fun t242 => (if t242 < 0 then (some true) else ((laws_toTripS.f k l0).bind fun t243 => ((spec_Within.f k t243 a1 a2 a3 a4).bind fun t246 => ((laws_toTripS.f k l0).bind fun t249 => ((impl_Within.f k t249 a1 a2 a3 a4).bind fun t252 => ((laws_eqIntS.f k t252 t246).bind fun t255 => (if t255 = true then ((laws_toTripS.f k l0).bind fun t256 => ((laws_eqTripS.f k t249 t256).bind fun t259 => (if t259 = true then ((laws_markTripS.f k t249 1).bind fun t260 => (if t260 < 0 then (laws_FnExactWithin.j0 k l0 a1 a2 a3 a4 t246 t252 true) else ((laws_eqIntS.f k t252 t246).bind fun t261 => (laws_FnExactWithin.j0 k l0 a1 a2 a3 a4 t246 t252 (!t261))))) else (some false)))) else (some false))))))))
end Go.Proofs.Ytdpjoblnjjkbfaa.P

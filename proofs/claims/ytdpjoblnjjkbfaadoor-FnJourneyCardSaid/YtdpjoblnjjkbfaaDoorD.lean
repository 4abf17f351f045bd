/- The functions of the program as plain Lean functions, without memory and machine; written by a program of the session. -/
import Derived.Test.YtdpjoblnjjkbfaaDoorS1
import Derived.Test.YtdpjoblnjjkbfaaDoorProg
import Derived.Test.YtdpjoblnjjkbfaaDoorV
namespace Go.Proofs.YtdpjoblnjjkbfaaDoor.P
open Go.RowKit Go.Proofs.YtdpjoblnjjkbfaaDoorW.PrintWords Go.Proofs.YtdpjoblnjjkbfaaDoorW.PrintLast Go.Proofs.YtdpjoblnjjkbfaaDoorW.PrintMore
set_option linter.unusedVariables false

structure S43 where
  f0 : Int
  f1 : Int
  f2 : Int
def z43 : S43 := ⟨(0 : Int), (0 : Int), (0 : Int)⟩
def rd_T43 (xs : List S43) (i : Int) : S43 := xs.getD i.toNat z43
def rd_L3 (xs : List (List S43)) (i : Int) : (List S43) := xs.getD i.toNat ([] : List S43)
structure S46 where
  f0 : ByteArray
  f1 : (List S43)
def z46 : S46 := ⟨(⟨#[]⟩ : ByteArray), ([] : List S43)⟩
def rd_T46 (xs : List S46) (i : Int) : S46 := xs.getD i.toNat z46
structure S48 where
  f0 : Int
  f1 : Int
  f2 : Int
def z48 : S48 := ⟨(0 : Int), (0 : Int), (0 : Int)⟩
def rd_T48 (xs : List S48) (i : Int) : S48 := xs.getD i.toNat z48
structure S98 where
  f0 : Int
  f1 : Int
  f2 : Int
  f3 : Int
def z98 : S98 := ⟨(0 : Int), (0 : Int), (0 : Int), (0 : Int)⟩
def rd_T98 (xs : List S98) (i : Int) : S98 := xs.getD i.toNat z98
def impl_leaves.f (l0 : List (S46)) (a1_0 : Int) (a1_1 : Int) (a1_2 : Int) : Option (Int) := if 0 ≤ a1_0 then (if a1_0 < (l0.length : Int) then (if 0 ≤ a1_1 then (if a1_1 < (((rd_T46 l0 a1_0).f1).length : Int) then (some ((rd_T43 ((rd_T46 l0 a1_0).f1) a1_1).f2)) else (none)) else (none)) else (none)) else (none)
def impl_arrives.f (l0 : List (S46)) (a1_0 : Int) (a1_1 : Int) (a1_2 : Int) : Option (Int) := if 0 ≤ a1_0 then (if a1_0 < (l0.length : Int) then (if 0 ≤ a1_2 then (if a1_2 < (((rd_T46 l0 a1_0).f1).length : Int) then (some ((rd_T43 ((rd_T46 l0 a1_0).f1) a1_2).f1)) else (none)) else (none)) else (none)) else (none)
def impl_ends.f (l0 : List (S46)) (a1_0 : Int) (a1_1 : Int) (a1_2 : Int) : Option (Int) := if 0 ≤ a1_0 then (if a1_0 < (l0.length : Int) then (if 0 ≤ a1_2 then (if a1_2 < (((rd_T46 l0 a1_0).f1).length : Int) then (some ((rd_T43 ((rd_T46 l0 a1_0).f1) a1_2).f0)) else (none)) else (none)) else (none)) else (none)
def impl_between.f (a0 : Int) (a1 : Int) (a2 : Int) : Option (Bool) := if a0 ≥ a1 then (some (decide (a0 ≤ a2))) else (some false)
def impl_isMinute.f (a0 : Int) : Option (Bool) := (impl_between.f a0 0 100000).bind fun t110 => (some t110)
mutual
def impl_nameOk.j0 : Nat → ByteArray → Bool → Option (Bool)
  | 0, _, _ => none
  | k + 1, x0, x11 => if x11 = true then (some false) else (impl_nameOk.l0 k x0 0)
def impl_nameOk.l0 : Nat → ByteArray → Int → Option (Bool)
  | 0, _, _ => none
  | k + 1, x0, x3 => if x3 < (x0.size : Int) then (if 0 ≤ x3 then (if (bt x0 x3) < 97 then (if (bt x0 x3) < 48 then (some false) else (if (bt x0 x3) > 57 then (some false) else (impl_nameOk.l0 k x0 (wrap64 (x3 + 1))))) else (if (bt x0 x3) > 122 then (if (bt x0 x3) < 48 then (some false) else (if (bt x0 x3) > 57 then (some false) else (impl_nameOk.l0 k x0 (wrap64 (x3 + 1))))) else (impl_nameOk.l0 k x0 (wrap64 (x3 + 1))))) else (none)) else (some true)
end
def impl_nameOk.f (k : Nat) (a0 : ByteArray) : Option (Bool) := if (a0.size : Int) < 1 then (impl_nameOk.j0 k a0 true) else (impl_nameOk.j0 k a0 (decide ((a0.size : Int) > 12)))
mutual
def impl_TripOk.j0 : Nat → Bool → ByteArray → List (S43) → Option (Bool)
  | 0, _, _, _ => none
  | k + 1, x15, x112000, x112001 => if x15 = true then (some false) else (impl_TripOk.l0 k x112001 (x112001.length : Int) 0 x112000 x112001)
def impl_TripOk.l0 : Nat → List (S43) → Int → Int → ByteArray → List (S43) → Option (Bool)
  | 0, _, _, _, _, _ => none
  | k + 1, x17, x18, x19, x112000, x112001 => if x19 < x18 then (if 0 ≤ x19 then (if x19 < (x17.length : Int) then ((impl_between.f ((rd_T43 x17 x19).f0) 0 29).bind fun t116 => (if t116 = true then ((impl_isMinute.f ((rd_T43 x17 x19).f1)).bind fun t117 => (if t117 = true then ((impl_isMinute.f ((rd_T43 x17 x19).f2)).bind fun t118 => (if t118 = true then (impl_TripOk.j2 k x19 x17 x18 x19 (decide (((rd_T43 x17 x19).f1) > ((rd_T43 x17 x19).f2))) x112000 x112001 ((rd_T43 x17 x19).f0) ((rd_T43 x17 x19).f1) ((rd_T43 x17 x19).f2)) else (impl_TripOk.j2 k x19 x17 x18 x19 true x112000 x112001 ((rd_T43 x17 x19).f0) ((rd_T43 x17 x19).f1) ((rd_T43 x17 x19).f2)))) else (impl_TripOk.j2 k x19 x17 x18 x19 true x112000 x112001 ((rd_T43 x17 x19).f0) ((rd_T43 x17 x19).f1) ((rd_T43 x17 x19).f2)))) else (impl_TripOk.j2 k x19 x17 x18 x19 true x112000 x112001 ((rd_T43 x17 x19).f0) ((rd_T43 x17 x19).f1) ((rd_T43 x17 x19).f2)))) else (none)) else (none)) else (some true)
def impl_TripOk.j2 : Nat → Int → List (S43) → Int → Int → Bool → ByteArray → List (S43) → Int → Int → Int → Option (Bool)
  | 0, _, _, _, _, _, _, _, _, _, _ => none
  | k + 1, x3, x17, x18, x19, x46, x112000, x112001, x116000, x116001, x116002 => if x46 = true then (some false) else (if x3 > 0 then (if 0 ≤ (wrap64 (x3 - 1)) then (if (wrap64 (x3 - 1)) < (x112001.length : Int) then (if x116001 ≤ ((rd_T43 x112001 (wrap64 (x3 - 1))).f2) then (some false) else (if x116000 = ((rd_T43 x112001 (wrap64 (x3 - 1))).f0) then (some false) else (impl_TripOk.l0 k x17 x18 (wrap64 (x19 + 1)) x112000 x112001))) else (none)) else (none)) else (impl_TripOk.l0 k x17 x18 (wrap64 (x19 + 1)) x112000 x112001))
end
def impl_TripOk.f (k : Nat) (a0_0 : ByteArray) (l0_1 : List (S43)) : Option (Bool) := (impl_nameOk.f k a0_0).bind fun t112 => (if t112 = true then ((impl_between.f (l0_1.length : Int) 2 12).bind fun t113 => (impl_TripOk.j0 k (!t113) a0_0 l0_1)) else (impl_TripOk.j0 k true a0_0 l0_1))
def impl_tripNamed.l0 (l0 : List S46) (a1 : ByteArray) : Int := if l0.findIdx (fun x => x.f0.toList == a1.toList) < l0.length then (l0.findIdx (fun x => x.f0.toList == a1.toList) : Int) else -1
def impl_tripNamed.f (l0 : List S46) (a1 : ByteArray) : Option Int := if l0.length ≤ 1000 then some (impl_tripNamed.l0 l0 a1) else none
def impl_TableOk.l0 : Nat → List (S46) → List (S46) → Int → Int → Option (Bool)
  | 0, _, _, _, _ => none
  | k + 1, x0, x8, x9, x10 => if x10 < x9 then (if 0 ≤ x10 then (if x10 < (x8.length : Int) then ((impl_TripOk.f k ((rd_T46 x8 x10).f0) ((rd_T46 x8 x10).f1)).bind fun t123 => (if t123 = true then (if x10 ≤ (x0.length : Int) then ((impl_tripNamed.f (x0.take (x10 : Int).toNat) ((rd_T46 x8 x10).f0)).bind fun t128 => (if t128 ≥ 0 then (some false) else (impl_TableOk.l0 k x0 x8 x9 (wrap64 (x10 + 1))))) else (none)) else (some false))) else (none)) else (none)) else (some true)
def impl_TableOk.f (k : Nat) (l0 : List (S46)) : Option (Bool) := if (l0.length : Int) > 24 then (some false) else (impl_TableOk.l0 k l0 l0 (l0.length : Int) 0)
def impl_changeOk.f (a0 : Int) : Option (Bool) := (impl_between.f a0 0 60).bind fun t129 => (some t129)
mutual
def impl_LegsOk.j0 : Nat → List (S46) → List (S48) → Int → Bool → Option (Bool)
  | 0, _, _, _, _ => none
  | k + 1, x0, x1, x2, x22 => if x22 = true then (some false) else (impl_LegsOk.l0 k x0 x1 x2 x1 (x1.length : Int) 0)
def impl_LegsOk.l0 : Nat → List (S46) → List (S48) → Int → List (S48) → Int → Int → Option (Bool)
  | 0, _, _, _, _, _, _ => none
  | k + 1, x0, x1, x2, x23, x24, x25 => if x25 < x24 then (if 0 ≤ x25 then (if x25 < (x23.length : Int) then ((impl_between.f ((rd_T48 x23 x25).f0) 0 (wrap64 ((x0.length : Int) - 1))).bind fun t134 => (if t134 = true then (if ((rd_T48 x23 x25).f1) < 0 then (impl_LegsOk.j2 k x0 x1 x2 x25 x23 x24 x25 true ((rd_T48 x23 x25).f0) ((rd_T48 x23 x25).f1) ((rd_T48 x23 x25).f2)) else (if ((rd_T48 x23 x25).f1) ≥ ((rd_T48 x23 x25).f2) then (impl_LegsOk.j2 k x0 x1 x2 x25 x23 x24 x25 true ((rd_T48 x23 x25).f0) ((rd_T48 x23 x25).f1) ((rd_T48 x23 x25).f2)) else (if 0 ≤ ((rd_T48 x23 x25).f0) then (if ((rd_T48 x23 x25).f0) < (x0.length : Int) then (impl_LegsOk.j2 k x0 x1 x2 x25 x23 x24 x25 (decide (((rd_T48 x23 x25).f2) ≥ (((rd_T46 x0 ((rd_T48 x23 x25).f0)).f1).length : Int))) ((rd_T48 x23 x25).f0) ((rd_T48 x23 x25).f1) ((rd_T48 x23 x25).f2)) else (none)) else (none)))) else (impl_LegsOk.j2 k x0 x1 x2 x25 x23 x24 x25 true ((rd_T48 x23 x25).f0) ((rd_T48 x23 x25).f1) ((rd_T48 x23 x25).f2)))) else (none)) else (none)) else (some true)
def impl_LegsOk.j2 : Nat → List (S46) → List (S48) → Int → Int → List (S48) → Int → Int → Bool → Int → Int → Int → Option (Bool)
  | 0, _, _, _, _, _, _, _, _, _, _, _ => none
  | k + 1, x0, x1, x2, x7, x23, x24, x25, x60, x134000, x134001, x134002 => if x60 = true then (some false) else (if x7 = 0 then (impl_LegsOk.l0 k x0 x1 x2 x23 x24 (wrap64 (x25 + 1))) else (if 0 ≤ (wrap64 (x7 - 1)) then (if (wrap64 (x7 - 1)) < (x1.length : Int) then (if 0 ≤ x134000 then (if x134000 < (x0.length : Int) then (if 0 ≤ x134001 then (if x134001 < (((rd_T46 x0 x134000).f1).length : Int) then ((impl_ends.f x0 ((rd_T48 x1 (wrap64 (x7 - 1))).f0) ((rd_T48 x1 (wrap64 (x7 - 1))).f1) ((rd_T48 x1 (wrap64 (x7 - 1))).f2)).bind fun t140 => (if ((rd_T43 ((rd_T46 x0 x134000).f1) x134001).f0) = t140 then ((impl_leaves.f x0 x134000 x134001 x134002).bind fun t141 => ((impl_arrives.f x0 ((rd_T48 x1 (wrap64 (x7 - 1))).f0) ((rd_T48 x1 (wrap64 (x7 - 1))).f1) ((rd_T48 x1 (wrap64 (x7 - 1))).f2)).bind fun t142 => (if t141 < (wrap64 (t142 + x2)) then (some false) else (impl_LegsOk.l0 k x0 x1 x2 x23 x24 (wrap64 (x25 + 1)))))) else (some false))) else (none)) else (none)) else (none)) else (none)) else (none)) else (none)))
end
def impl_LegsOk.f (k : Nat) (l0 : List (S46)) (l1 : List (S48)) (a2 : Int) : Option (Bool) := (impl_TableOk.f k l0).bind fun t130 => (if t130 = true then ((impl_changeOk.f a2).bind fun t131 => (if t131 = true then (impl_LegsOk.j0 k l0 l1 a2 (decide ((l1.length : Int) > 5))) else (impl_LegsOk.j0 k l0 l1 a2 true))) else (impl_LegsOk.j0 k l0 l1 a2 true))
def strconv_Itoa_63.f (a0 : Int) : Option ByteArray := if 0 ≤ a0 ∧ a0 < 1000000 then some ⟨(Lib.decDigits a0.toNat).toArray⟩ else none
def impl_twoDigits.f (a0 : Int) : Option (ByteArray) := if a0 < 10 then ((strconv_Itoa_63.f a0).bind fun t143 => (if 1 + t143.size ≤ 9223372036854775807 then (some ((⟨#[48]⟩ : ByteArray) ++ t143)) else (none))) else ((strconv_Itoa_63.f a0).bind fun t144 => (some t144))
def impl_TimeText.f (a0 : Int) : Option (ByteArray) := (impl_isMinute.f a0).bind fun t145 => (if t145 = true then ((impl_twoDigits.f (wrap64 (Int.tdiv a0 60))).bind fun t146 => (if t146.size + 1 ≤ 9223372036854775807 then ((impl_twoDigits.f (Int.tmod a0 60)).bind fun t147 => (if (t146 ++ (⟨#[58]⟩ : ByteArray)).size + t147.size ≤ 9223372036854775807 then (some ((t146 ++ (⟨#[58]⟩ : ByteArray)) ++ t147)) else (none))) else (none))) else (some (⟨#[]⟩ : ByteArray)))
mutual
def impl_JourneyText.l0 : Nat → List (S46) → ByteArray → List (S48) → Int → Int → Option (ByteArray)
  | 0, _, _, _, _, _ => none
  | k + 1, x0, x7, x15, x16, x17 => if x17 < x16 then (if 0 ≤ x17 then (if x17 < (x15.length : Int) then (if x17 > 0 then (if x7.size + 3 ≤ 9223372036854775807 then (impl_JourneyText.j1 k x0 (x7 ++ (⟨#[32, 47, 32]⟩ : ByteArray)) x15 x16 x17 ((rd_T48 x15 x17).f0) ((rd_T48 x15 x17).f1) ((rd_T48 x15 x17).f2)) else (none)) else (impl_JourneyText.j1 k x0 x7 x15 x16 x17 ((rd_T48 x15 x17).f0) ((rd_T48 x15 x17).f1) ((rd_T48 x15 x17).f2))) else (none)) else (none)) else (some x7)
def impl_JourneyText.j1 : Nat → List (S46) → ByteArray → List (S48) → Int → Int → Int → Int → Int → Option (ByteArray)
  | 0, _, _, _, _, _, _, _, _ => none
  | k + 1, x0, x7, x15, x16, x17, x151000, x151001, x151002 => if 0 ≤ x151000 then (if x151000 < (x0.length : Int) then (if ((rd_T46 x0 x151000).f0).size + 1 ≤ 9223372036854775807 then ((impl_leaves.f x0 x151000 x151001 x151002).bind fun t152 => ((impl_TimeText.f t152).bind fun t153 => (if (((rd_T46 x0 x151000).f0) ++ (⟨#[32]⟩ : ByteArray)).size + t153.size ≤ 9223372036854775807 then (if ((((rd_T46 x0 x151000).f0) ++ (⟨#[32]⟩ : ByteArray)) ++ t153).size + 1 ≤ 9223372036854775807 then ((impl_arrives.f x0 x151000 x151001 x151002).bind fun t154 => ((impl_TimeText.f t154).bind fun t155 => (if (((((rd_T46 x0 x151000).f0) ++ (⟨#[32]⟩ : ByteArray)) ++ t153) ++ (⟨#[45]⟩ : ByteArray)).size + t155.size ≤ 9223372036854775807 then (if x7.size + ((((((rd_T46 x0 x151000).f0) ++ (⟨#[32]⟩ : ByteArray)) ++ t153) ++ (⟨#[45]⟩ : ByteArray)) ++ t155).size ≤ 9223372036854775807 then (impl_JourneyText.l0 k x0 (x7 ++ ((((((rd_T46 x0 x151000).f0) ++ (⟨#[32]⟩ : ByteArray)) ++ t153) ++ (⟨#[45]⟩ : ByteArray)) ++ t155)) x15 x16 (wrap64 (x17 + 1))) else (none)) else (none)))) else (none)) else (none)))) else (none)) else (none)) else (none)
end
def impl_JourneyText.f (k : Nat) (l0 : List (S46)) (l1 : List (S48)) (a2 : Int) : Option (ByteArray) := (impl_LegsOk.f k l0 l1 a2).bind fun t148 => (if t148 = true then (impl_JourneyText.l0 k l0 (⟨#[]⟩ : ByteArray) l1 (l1.length : Int) 0) else (some (⟨#[]⟩ : ByteArray)))
def laws_big.f (l0 : List Int) : Option (Bool) := some (decide ((l0.length : Int) > 1048576))
def spec_l01New.l0 : Nat → List Int → Int → Int → Option (List Int × Int × Int)
  | 0, _, _, _ => none
  | k + 1, x0, x3, x4 => if x4 < (x0.length : Int) then (if x4 < 4000 then (if 0 ≤ x4 then (spec_l01New.l0 k x0 (Go.bits .and .i64 (wrap64 ((wrap64 ((wrap64 (x3 * 137)) + (wrap64 (rd x0 x4)))) + 11)) 1073741823) (wrap64 (x4 + 1))) else (none)) else (some (x0, 0, x3))) else (some (x0, 0, x3))
def spec_l01New.f (k : Nat) (l0 : List Int) : Option (List Int × Int × Int) := spec_l01New.l0 k l0 (wrap64 (75075 + (l0.length : Int))) 0
def spec_l01Byte.f (s0_0 : List Int) (s0_1 : Int) (s0_2 : Int) : Option (Int × Int × Int) := if s0_1 < (s0_0.length : Int) then (if 0 ≤ s0_1 then (some (Go.bits .and .i64 (wrap64 ((Go.bits .and .i64 (Go.bits .xor .i64 ((wrap64 ((wrap64 (s0_2 * 6364136223846793005)) + 1442695040888963407)) / 8589934592) ((wrap64 ((wrap64 (s0_2 * 6364136223846793005)) + 1442695040888963407)) / 35184372088832)) 255) + (wrap64 (rd s0_0 s0_1)))) 255, wrap64 (s0_1 + 1), wrap64 ((wrap64 (s0_2 * 6364136223846793005)) + 1442695040888963407))) else (none)) else (some (Go.bits .and .i64 (Go.bits .xor .i64 ((wrap64 ((wrap64 (s0_2 * 6364136223846793005)) + 1442695040888963407)) / 8589934592) ((wrap64 ((wrap64 (s0_2 * 6364136223846793005)) + 1442695040888963407)) / 35184372088832)) 255, s0_1, wrap64 ((wrap64 (s0_2 * 6364136223846793005)) + 1442695040888963407)))
def spec_l01Below.f (s0_0 : List Int) (s0_1 : Int) (s0_2 : Int) (a1 : Int) : Option (Int × Int × Int) := if a1 ≤ 0 then (some (0, s0_1, s0_2)) else (if a1 ≤ 256 then ((spec_l01Byte.f s0_0 s0_1 s0_2).bind fun bt160 => (if a1 = 0 then (none) else (some (Int.tmod bt160.1 a1, bt160.2.1, bt160.2.2)))) else ((spec_l01Byte.f s0_0 s0_1 s0_2).bind fun bt163 => ((spec_l01Byte.f s0_0 bt163.2.1 bt163.2.2).bind fun bt166 => ((spec_l01Byte.f s0_0 bt166.2.1 bt166.2.2).bind fun bt169 => (if a1 = 0 then (none) else (some (Int.tmod (wrap64 ((wrap64 ((wrap64 (bt163.1 * 65536)) + (wrap64 (bt166.1 * 256)))) + bt169.1)) a1, bt169.2.1, bt169.2.2)))))))
def spec_l01Num.l0 : Nat → Int → ByteArray → Bool → Option (ByteArray)
  | 0, _, _, _ => none
  | k + 1, x0, x3, x4 => if x0 = 0 then (if x4 = true then (if 1 + x3.size ≤ 9223372036854775807 then (some ((⟨#[45]⟩ : ByteArray) ++ x3)) else (none)) else (some x3)) else (if (Int.tmod x0 10) < 0 then ((some (([(wrap64 (48 + (wrap64 (-(Int.tmod x0 10))))) % 256] : List Int) : List Int)).bind fun y172 => (if (strOfNums y172).size + x3.size ≤ 9223372036854775807 then (spec_l01Num.l0 k (wrap64 (Int.tdiv x0 10)) ((strOfNums y172) ++ x3) x4) else (none))) else ((some (([(wrap64 (48 + (Int.tmod x0 10))) % 256] : List Int) : List Int)).bind fun y175 => (if (strOfNums y175).size + x3.size ≤ 9223372036854775807 then (spec_l01Num.l0 k (wrap64 (Int.tdiv x0 10)) ((strOfNums y175) ++ x3) x4) else (none))))
def spec_l01Num.f (k : Nat) (a0 : Int) : Option (ByteArray) := if a0 = 0 then (some (⟨#[48]⟩ : ByteArray)) else (spec_l01Num.l0 k a0 (⟨#[]⟩ : ByteArray) (decide (a0 < 0)))
def spec_l01PickText.f (s0_0 : List Int) (s0_1 : Int) (s0_2 : Int) (l1 : List ByteArray) : Option (ByteArray × Int × Int) := (spec_l01Below.f s0_0 s0_1 s0_2 (l1.length : Int)).bind fun bt178 => (if 0 ≤ bt178.1 then (if bt178.1 < (l1.length : Int) then (some (rdOf ByteArray.empty l1 bt178.1, bt178.2.1, bt178.2.2)) else (none)) else (none))
def spec_l08DrawName.f (k : Nat) (s0_0 : List Int) (s0_1 : Int) (s0_2 : Int) : Option (ByteArray × Int × Int) := (spec_l01PickText.f s0_0 s0_1 s0_2 (([(⟨#[97]⟩ : ByteArray), (⟨#[105, 99]⟩ : ByteArray), (⟨#[114, 101]⟩ : ByteArray), (⟨#[115]⟩ : ByteArray), (⟨#[120]⟩ : ByteArray)] : List ByteArray))).bind fun bt185 => ((spec_l01Below.f s0_0 bt185.2.1 bt185.2.2 90).bind fun bt188 => ((spec_l01Num.f k bt188.1).bind fun t191 => (if bt185.1.size + t191.size ≤ 9223372036854775807 then (some (bt185.1 ++ t191, bt188.2.1, bt188.2.2)) else (none))))
def spec_l02Other.f (a0_0 : Int) (a0_1 : Int) (a0_2 : Int) (a0_3 : Int) (a1 : Int) : Option (Int) := if a0_0 = a1 then (some a0_1) else (if a0_1 = a1 then (some a0_0) else (some (-1)))
mutual
def spec_l02DrawWay.l0 : Nat → Int → List Int → Int → Int → List Int → Int → Int → Int → List (S98) → Option (List Int × Int × Int)
  | 0, _, _, _, _, _, _, _, _, _ => none
  | k + 1, x3, x9, x10, x11, x1000, x1001, x1002, x194000, x194001 => if x11 < x3 then ((spec_l01Below.f x1000 x1001 x1002 (x194001.length : Int)).bind fun bt197 => (spec_l02DrawWay.l1 k x3 x9 x10 x11 bt197.1 0 x1000 bt197.2.1 bt197.2.2 x194000 x194001)) else (some (x9, x1001, x1002))
def spec_l02DrawWay.l1 : Nat → Int → List Int → Int → Int → Int → Int → List Int → Int → Int → Int → List (S98) → Option (List Int × Int × Int)
  | 0, _, _, _, _, _, _, _, _, _, _, _ => none
  | k + 1, x3, x9, x10, x11, x12, x13, x1000, x1001, x1002, x194000, x194001 => if x13 < (x194001.length : Int) then (if (x194001.length : Int) = 0 then (none) else (if 0 ≤ (Int.tmod (wrap64 (x12 + x13)) (x194001.length : Int)) then (if (Int.tmod (wrap64 (x12 + x13)) (x194001.length : Int)) < (x194001.length : Int) then ((spec_l02Other.f ((rd_T98 x194001 (Int.tmod (wrap64 (x12 + x13)) (x194001.length : Int))).f0) ((rd_T98 x194001 (Int.tmod (wrap64 (x12 + x13)) (x194001.length : Int))).f1) ((rd_T98 x194001 (Int.tmod (wrap64 (x12 + x13)) (x194001.length : Int))).f2) ((rd_T98 x194001 (Int.tmod (wrap64 (x12 + x13)) (x194001.length : Int))).f3) x10).bind fun t201 => (if t201 ≥ 0 then (if x9.length < 17592186044416 then (spec_l02DrawWay.l0 k x3 (x9 ++ [Int.tmod (wrap64 (x12 + x13)) (x194001.length : Int)]) t201 (wrap64 (x11 + 1)) x1000 x1001 x1002 x194000 x194001) else (none)) else (spec_l02DrawWay.l1 k x3 x9 x10 x11 x12 (wrap64 (x13 + 1)) x1000 x1001 x1002 x194000 x194001))) else (none)) else (none))) else (spec_l02DrawWay.l0 k x3 x9 x10 (wrap64 (x11 + 1)) x1000 x1001 x1002 x194000 x194001)
end
def spec_l02DrawWay.f (k : Nat) (s0_0 : List Int) (s0_1 : Int) (s0_2 : Int) (a1_0 : Int) (l1_1 : List (S98)) (a2 : Int) (a3 : Int) : Option (List Int × Int × Int) := spec_l02DrawWay.l0 k a3 (([] : List Int)) a2 0 s0_0 s0_1 s0_2 a1_0 l1_1
def spec_l08DrawTrip.l0 : Nat → Int → Int → Int → List Int → Int → Int → Int → List (S98) → ByteArray → List (S43) → Option (ByteArray × (List (S43)) × Int × Int)
  | 0, _, _, _, _, _, _, _, _, _, _ => none
  | k + 1, x8, x9, x10, x1000, x1001, x1002, x206000, x206001, x211000, x211001 => if x10 > 0 then ((spec_l01Below.f x1000 x1001 x1002 4).bind fun bt220 => (if x211001.length < 5864062014805 then ((some (x211001 ++ [(⟨x8, x9, wrap64 (x9 + bt220.1)⟩ : S43)] : List (S43))).bind fun y223 => ((spec_l01Below.f x1000 bt220.2.1 bt220.2.2 14).bind fun bt226 => ((spec_l01Below.f x1000 bt226.2.1 bt226.2.2 (wrap64 (x206000 - 1))).bind fun bt229 => (if x206000 = 0 then (none) else ((spec_l02DrawWay.f k x1000 bt229.2.1 bt229.2.2 x206000 x206001 x8 1).bind fun bt232 => (if (bt232.1.length : Int) = 1 then (if 0 < (bt232.1.length : Int) then (if 0 ≤ (rd bt232.1 0) then (if (rd bt232.1 0) < (x206001.length : Int) then ((spec_l02Other.f ((rd_T98 x206001 (rd bt232.1 0)).f0) ((rd_T98 x206001 (rd bt232.1 0)).f1) ((rd_T98 x206001 (rd bt232.1 0)).f2) ((rd_T98 x206001 (rd bt232.1 0)).f3) x8).bind fun t239 => (spec_l08DrawTrip.l0 k t239 (wrap64 ((wrap64 ((wrap64 (x9 + bt220.1)) + 2)) + bt226.1)) (wrap64 (x10 - 1)) x1000 bt232.2.1 bt232.2.2 x206000 x206001 x211000 y223)) else (none)) else (none)) else (none)) else (spec_l08DrawTrip.l0 k (Int.tmod (wrap64 ((wrap64 (x8 + 1)) + bt229.1)) x206000) (wrap64 ((wrap64 ((wrap64 (x9 + bt220.1)) + 2)) + bt226.1)) (wrap64 (x10 - 1)) x1000 bt232.2.1 bt232.2.2 x206000 x206001 x211000 y223))))))) else (none))) else (some (x211000, x211001, x1001, x1002))
def spec_l08DrawTrip.f (k : Nat) (s0_0 : List Int) (s0_1 : Int) (s0_2 : Int) (a1_0 : Int) (l1_1 : List (S98)) (a2 : Int) : Option (ByteArray × (List (S43)) × Int × Int) := (spec_l08DrawName.f k s0_0 s0_1 s0_2).bind fun bt207 => ((spec_l01Below.f s0_0 bt207.2.1 bt207.2.2 a1_0).bind fun bt211 => ((spec_l01Below.f s0_0 bt211.2.1 bt211.2.2 120).bind fun bt214 => ((spec_l01Below.f s0_0 bt214.2.1 bt214.2.2 (wrap64 (a2 - 1))).bind fun bt217 => (spec_l08DrawTrip.l0 k bt211.1 bt214.1 (wrap64 (2 + bt217.1)) s0_0 bt217.2.1 bt217.2.2 a1_0 l1_1 bt207.1 ([] : List (S43))))))
def spec_l08Taken.l0 : Nat → List (S46) → ByteArray → Int → Option (Bool)
  | 0, _, _, _ => none
  | k + 1, x0, x1, x5 => if x5 < (x0.length : Int) then (if 0 ≤ x5 then (if ((rd_T46 x0 x5).f0).toList = x1.toList then (some true) else (spec_l08Taken.l0 k x0 x1 (wrap64 (x5 + 1)))) else (none)) else (some false)
def spec_l08Taken.f (k : Nat) (l0 : List (S46)) (a1 : ByteArray) : Option (Bool) := spec_l08Taken.l0 k l0 a1 0
def spec_l08DrawTable.l0 : Nat → List (S46) → Int → List Int → Int → Int → Int → List (S98) → Option ((List (S46)) × Int × Int)
  | 0, _, _, _, _, _, _, _ => none
  | k + 1, x7, x8, x1000, x1001, x1002, x242000, x242001 => if x8 > 0 then ((spec_l08DrawTrip.f k x1000 x1001 x1002 x242000 x242001 4).bind fun bt248 => ((spec_l08Taken.f k x7 bt248.1).bind fun t255 => (if t255 = true then (spec_l08DrawTable.l0 k x7 (wrap64 (x8 - 1)) x1000 bt248.2.2.1 bt248.2.2.2 x242000 x242001) else (if x7.length < 3518437208883 then (spec_l08DrawTable.l0 k (x7 ++ [(⟨bt248.1, bt248.2.1⟩ : S46)]) (wrap64 (x8 - 1)) x1000 bt248.2.2.1 bt248.2.2.2 x242000 x242001) else (none))))) else (some (x7, x1001, x1002))
def spec_l08DrawTable.f (k : Nat) (s0_0 : List Int) (s0_1 : Int) (s0_2 : Int) (a1_0 : Int) (l1_1 : List (S98)) (a2 : Int) : Option ((List (S46)) × Int × Int) := (spec_l01Below.f s0_0 s0_1 s0_2 a2).bind fun bt245 => (spec_l08DrawTable.l0 k (([] : List (S46))) (wrap64 (1 + bt245.1)) s0_0 bt245.2.1 bt245.2.2 a1_0 l1_1)
def spec_l01Size.f (l0 : List Int) (a1 : Int) : Option (Int) := if (wrap64 (2 + (wrap64 ((l0.length : Int) / 16)))) > a1 then (some a1) else (some (wrap64 (2 + (wrap64 ((l0.length : Int) / 16)))))
def spec_DrawRightQuestion.f (k : Nat) (l0 : List Int) : Option ((List (S46)) × Int × Int × Int × Int) := (spec_l01New.f k l0).bind fun bt259 => ((spec_l01Below.f bt259.1 bt259.2.1 bt259.2.2 2).bind fun bt263 => ((spec_l01Size.f l0 8).bind fun t266 => ((spec_l08DrawTable.f k bt259.1 bt263.2.1 bt263.2.2 (wrap64 (4 + bt263.1)) ([] : List (S98)) (wrap64 (3 + t266))).bind fun bt267 => ((spec_l01Below.f bt259.1 bt267.2.1 bt267.2.2 5).bind fun bt272 => ((spec_l01Below.f bt259.1 bt272.2.1 bt272.2.2 5).bind fun bt275 => ((spec_l01Below.f bt259.1 bt275.2.1 bt275.2.2 60).bind fun bt278 => ((spec_l01Below.f bt259.1 bt278.2.1 bt278.2.2 8).bind fun bt281 => (some (bt267.1, bt272.1, bt275.1, bt278.1, bt281.1)))))))))
def laws_at.f (l0 : List Int) (a1 : Int) : Option (Int) := if a1 < (l0.length : Int) then (if 0 ≤ a1 then (some (wrap64 (rd l0 a1))) else (none)) else (some (Int.tmod (wrap64 ((wrap64 (a1 * 11)) + (wrap64 ((l0.length : Int) * 3)))) 256))
def impl_questionOk.j0 : Nat → Int → Int → Int → Bool → Option (Bool)
  | 0, _, _, _, _ => none
  | k + 1, x3, x4, x5, x25 => if x25 = true then (some false) else ((impl_isMinute.f x3).bind fun t288 => (if t288 = true then ((impl_changeOk.f x4).bind fun t289 => (if t289 = true then ((impl_between.f x5 0 5).bind fun t290 => (some t290)) else (some false))) else (some false)))
def impl_questionOk.f (k : Nat) (l0 : List (S46)) (a1 : Int) (a2 : Int) (a3 : Int) (a4 : Int) (a5 : Int) : Option (Bool) := (impl_TableOk.f k l0).bind fun t285 => (if t285 = true then ((impl_between.f a1 0 29).bind fun t286 => (if t286 = true then ((impl_between.f a2 0 29).bind fun t287 => (impl_questionOk.j0 k a3 a4 a5 (!t287))) else (impl_questionOk.j0 k a3 a4 a5 true))) else (impl_questionOk.j0 k a3 a4 a5 true))
def impl_arrivals.l0 (h : Nat) (wait : Int) (s : List Int × Bool) (c : S43) : List Int × Bool :=
  let o1 := if s.2 = true then s.1.set ((h + 1) * 30 + c.f0.toNat) (min (s.1.getD ((h + 1) * 30 + c.f0.toNat) 0) c.f1) else s.1
  (o1, s.2 || (decide (o1.getD (h * 30 + c.f0.toNat) 0 < 100001) && decide (o1.getD (h * 30 + c.f0.toNat) 0 + wait ≤ c.f2)))
def impl_arrivals.l1 (h : Nat) (wait : Int) (o : List Int) (t : S46) : List Int := (t.f1.foldl (impl_arrivals.l0 h wait) (o, false)).1
def impl_arrivals.l2 (l : List S46) (ch : Int) : Nat → List Int → List Int
  | 0, o => o
  | h + 1, o => l.foldl (impl_arrivals.l1 h (if h = 0 then 0 else ch)) (impl_arrivals.l2 l ch h o)
def impl_arrivals.l3 (l : List S46) (fr mi ch : Int) (hops : Nat) : List Int := impl_arrivals.l2 l ch hops ((List.replicate ((hops + 1) * 30) 100001).set fr.toNat mi)
def impl_arrivals.l4 (l : List S46) : Bool := decide (l.length ≤ 24) && l.all (fun t => decide (t.f1.length ≤ 12) && t.f1.all (fun c => decide (0 ≤ c.f0) && decide (c.f0 < 30) && decide (0 ≤ c.f1) && decide (c.f1 ≤ 100000) && decide (0 ≤ c.f2) && decide (c.f2 ≤ 100000)))
def impl_soonest.l0 (o : List Int) (tg : Nat) : Nat → Int × Int
  | 0 => (100001, -1)
  | h + 1 => if o.getD (h * 30 + tg) 0 < (impl_soonest.l0 o tg h).1 then (o.getD (h * 30 + tg) 0, (h : Int)) else impl_soonest.l0 o tg h
def impl_soonest.l1 (s : Int × Int) : Int × Int := if s.2 < 0 then (-1, -1) else s
def impl_soonest.l2 (l : List S46) (fr tg mi ch : Int) (hops : Nat) : Int × Int := impl_soonest.l1 (impl_soonest.l0 (impl_arrivals.l3 l fr mi ch hops) tg.toNat (hops + 1))
def impl_soonest.f (l0 : List S46) (a1 : Int) (a2 : Int) (a3 : Int) (a4 : Int) (a5 : Int) : Option (Int × Int) := if impl_arrivals.l4 l0 = true ∧ 0 ≤ a1 ∧ a1 < 30 ∧ 0 ≤ a2 ∧ a2 < 30 ∧ 0 ≤ a3 ∧ a3 ≤ 100000 ∧ 0 ≤ a4 ∧ a4 ≤ 60 ∧ 0 ≤ a5 ∧ a5 ≤ 5 then some (impl_soonest.l2 l0 a1 a2 a3 a4 a5.toNat) else none
def impl_Soonest.f (k : Nat) (l0 : List (S46)) (a1 : Int) (a2 : Int) (a3 : Int) (a4 : Int) (a5 : Int) : Option (Int) := (impl_questionOk.f k l0 a1 a2 a3 a4 a5).bind fun t291 => (if t291 = true then ((impl_soonest.f l0 a1 a2 a3 a4 a5).bind fun bt292 => (some bt292.1)) else (some (-1)))
mutual
def impl_legsFrom.l0 : Nat → Int → List (S48) → List (S46) → Int → Int → Option ((List (S48)))
  | 0, _, _, _, _, _ => none
  | k + 1, x1, x5, x12, x13, x14 => if x14 < x13 then (if 0 ≤ x14 then (if x14 < (x12.length : Int) then (impl_legsFrom.l1 k x1 x5 x14 x12 x13 x14 ((rd_T46 x12 x14).f1) (((rd_T46 x12 x14).f1).length : Int) 0 ((rd_T46 x12 x14).f0) ((rd_T46 x12 x14).f1)) else (none)) else (none)) else (some x5)
def impl_legsFrom.l1 : Nat → Int → List (S48) → Int → List (S46) → Int → Int → List (S43) → Int → Int → ByteArray → List (S43) → Option ((List (S48)))
  | 0, _, _, _, _, _, _, _, _, _, _, _ => none
  | k + 1, x1, x5, x6, x12, x13, x14, x20, x21, x22, x299000, x299001 => if x22 < x21 then (if 0 ≤ x22 then (if x22 < (x20.length : Int) then (if ((rd_T43 x20 x22).f0) = x1 then (impl_legsFrom.l2 k x1 x5 x6 x22 (wrap64 (x22 + 1)) x12 x13 x14 x20 x21 x22 x299000 x299001) else (impl_legsFrom.l1 k x1 x5 x6 x12 x13 x14 x20 x21 (wrap64 (x22 + 1)) x299000 x299001)) else (none)) else (none)) else (impl_legsFrom.l0 k x1 x5 x12 x13 (wrap64 (x14 + 1)))
def impl_legsFrom.l2 : Nat → Int → List (S48) → Int → Int → Int → List (S46) → Int → Int → List (S43) → Int → Int → ByteArray → List (S43) → Option ((List (S48)))
  | 0, _, _, _, _, _, _, _, _, _, _, _, _, _ => none
  | k + 1, x1, x5, x6, x8, x10, x12, x13, x14, x20, x21, x22, x299000, x299001 => if x10 < (x299001.length : Int) then (if x5.length < 5864062014805 then (impl_legsFrom.l2 k x1 (x5 ++ [(⟨x6, x8, x10⟩ : S48)]) x6 x8 (wrap64 (x10 + 1)) x12 x13 x14 x20 x21 x22 x299000 x299001) else (none)) else (impl_legsFrom.l1 k x1 x5 x6 x12 x13 x14 x20 x21 (wrap64 (x22 + 1)) x299000 x299001)
end
def impl_legsFrom.f (k : Nat) (l0 : List (S46)) (a1 : Int) : Option ((List (S48))) := impl_legsFrom.l0 k a1 (([] : List (S48))) l0 (l0.length : Int) 0
def impl_departures.l0 (l : List S46) (node : Int) : List S48 := (List.range l.length).flatMap fun i => (List.range (l.getD i z46).f1.length).flatMap fun on => if ((l.getD i z46).f1.getD on z43).f0 = node then (List.range ((l.getD i z46).f1.length - (on + 1))).map fun m => (⟨(i : Int), (on : Int), ((on + 1 + m : Nat) : Int)⟩ : S48) else []
def impl_departures.l1 (l : List S46) (x : S48) : S43 := rd_T43 (rd_T46 l x.f0).f1 x.f1
def impl_departures.l2 (l : List S46) (x : S48) : S43 := rd_T43 (rd_T46 l x.f0).f1 x.f2
def impl_departures.l3 (l : List S46) (tg by_ ch : Int) (last : Bool) (rw : Nat → Int) (x : S48) : Bool := if last = true then decide ((impl_departures.l2 l x).f0 = tg) && decide ((impl_departures.l2 l x).f1 ≤ by_) else decide ((impl_departures.l2 l x).f1 + ch ≤ rw (impl_departures.l2 l x).f0.toNat)
def impl_departures.l4 (l : List S46) (tg by_ ch : Int) (h node : Nat) (o : List Int) (x : S48) : List Int := if impl_departures.l3 l tg by_ ch (decide (h = 0)) (fun i => o.getD (h * 30 + i) 0) x = true then o.set ((h + 1) * 30 + node) (max (o.getD ((h + 1) * 30 + node) 0) (impl_departures.l1 l x).f2) else o
def impl_departures.l5 (l : List S46) (tg by_ ch : Int) (h : Nat) : Nat → List Int → List Int
  | 0, o => o
  | node + 1, o => (impl_departures.l0 l (node : Int)).foldl (impl_departures.l4 l tg by_ ch h node) (impl_departures.l5 l tg by_ ch h node o)
def impl_departures.l6 (l : List S46) (tg by_ ch : Int) : Nat → List Int → List Int
  | 0, o => o
  | h + 1, o => impl_departures.l5 l tg by_ ch h 30 (impl_departures.l6 l tg by_ ch h o)
def impl_departures.l7 (l : List S46) (tg by_ ch : Int) (hops : Nat) : List Int := impl_departures.l6 l tg by_ ch hops (List.replicate ((hops + 1) * 30) (-1))
def impl_departures.l8 (l : List S46) : Bool := decide (l.length ≤ 24) && l.all (fun t => decide (t.f1.length ≤ 12) && t.f1.all (fun c => decide (0 ≤ c.f0) && decide (c.f0 < 30) && decide (0 ≤ c.f1) && decide (c.f1 ≤ 100000) && decide (0 ≤ c.f2) && decide (c.f2 ≤ 100000)))
def impl_Journey.l0 (l : List S46) (tg by_ ch ready : Int) (h : Nat) (o : List Int) (x : S48) : Bool := decide ((impl_departures.l1 l x).f2 ≥ ready) && impl_departures.l3 l tg by_ ch (decide (h = 0)) (fun i => o.getD (h * 30 + i) 0) x
def impl_Journey.l1 (l : List S46) (tg by_ ch : Int) (o : List Int) : Nat → List S48 → Int → Int → List S48
  | 0, out, _, _ => out
  | h + 1, out, at_, ready => match (impl_departures.l0 l at_).find? (impl_Journey.l0 l tg by_ ch ready h o) with
    | some x => impl_Journey.l1 l tg by_ ch o h (out ++ [x]) (impl_departures.l2 l x).f0 ((impl_departures.l2 l x).f1 + ch)
    | none => impl_Journey.l1 l tg by_ ch o h out at_ ready
def impl_Journey.l2 (l0 : List S46) (a1 : Int) (a2 : Int) (a3 : Int) (a4 : Int) (r1 : Int) (r2 : Int) : Option (List S48) := if r1 < 0 then some [] else if impl_departures.l8 l0 = true ∧ 0 ≤ a1 ∧ a1 < 30 ∧ 0 ≤ a3 ∧ a3 ≤ 100000 ∧ 0 ≤ a4 ∧ a4 ≤ 60 ∧ 0 ≤ r2 ∧ r2 ≤ 5 then some (impl_Journey.l1 l0 a2 r1 a4 (impl_departures.l7 l0 a2 r1 a4 r2.toNat) r2.toNat [] a1 a3) else none
def impl_Journey.f (k : Nat) (l0 : List S46) (a1 : Int) (a2 : Int) (a3 : Int) (a4 : Int) (a5 : Int) : Option (List S48) := (impl_questionOk.f k l0 a1 a2 a3 a4 a5).bind fun t => if t = true then (impl_soonest.f l0 a1 a2 a3 a4 a5).bind fun b => impl_Journey.l2 l0 a1 a2 a3 a4 b.1 b.2 else some []
def spec_l01In.f (a0 : Int) (a1 : Int) (a2 : Int) : Option (Bool) := if a1 ≤ a0 then (some (decide (a0 ≤ a2))) else (some false)
def spec_l01Name.l0 : Nat → ByteArray → Int → Option (Bool)
  | 0, _, _ => none
  | k + 1, x0, x3 => if x3 < (x0.size : Int) then (if 0 ≤ x3 then (if (bt x0 x3) ≥ 97 then (if ((bt x0 x3) ≤ 122) then (spec_l01Name.l0 k x0 (wrap64 (x3 + 1))) else (if (bt x0 x3) ≥ 48 then (if ((bt x0 x3) ≤ 57) then (spec_l01Name.l0 k x0 (wrap64 (x3 + 1))) else (some false)) else (some false))) else (if (bt x0 x3) ≥ 48 then (if ((bt x0 x3) ≤ 57) then (spec_l01Name.l0 k x0 (wrap64 (x3 + 1))) else (some false)) else (some false))) else (none)) else ((spec_l01In.f (x0.size : Int) 1 12).bind fun t304 => (some t304))
def spec_l01Name.f (k : Nat) (a0 : ByteArray) : Option (Bool) := spec_l01Name.l0 k a0 0
mutual
def spec_TripOk.j0 : Nat → Bool → ByteArray → List (S43) → Option (Bool)
  | 0, _, _, _ => none
  | k + 1, x15, x306000, x306001 => if x15 = true then (some false) else (spec_TripOk.l0 k 0 x306000 x306001)
def spec_TripOk.l0 : Nat → Int → ByteArray → List (S43) → Option (Bool)
  | 0, _, _, _ => none
  | k + 1, x3, x306000, x306001 => if x3 < (x306001.length : Int) then (if 0 ≤ x3 then ((spec_l01In.f ((rd_T43 x306001 x3).f0) 0 29).bind fun t310 => (if t310 = true then ((spec_l01In.f ((rd_T43 x306001 x3).f2) 0 100000).bind fun t311 => (if t311 = true then ((spec_l01In.f ((rd_T43 x306001 x3).f1) 0 ((rd_T43 x306001 x3).f2)).bind fun t312 => (spec_TripOk.j2 k x3 (!t312) x306000 x306001 ((rd_T43 x306001 x3).f0) ((rd_T43 x306001 x3).f1) ((rd_T43 x306001 x3).f2))) else (spec_TripOk.j2 k x3 true x306000 x306001 ((rd_T43 x306001 x3).f0) ((rd_T43 x306001 x3).f1) ((rd_T43 x306001 x3).f2)))) else (spec_TripOk.j2 k x3 true x306000 x306001 ((rd_T43 x306001 x3).f0) ((rd_T43 x306001 x3).f1) ((rd_T43 x306001 x3).f2)))) else (none)) else (some true)
def spec_TripOk.j2 : Nat → Int → Bool → ByteArray → List (S43) → Int → Int → Int → Option (Bool)
  | 0, _, _, _, _, _, _, _ => none
  | k + 1, x3, x45, x306000, x306001, x310000, x310001, x310002 => if x45 = true then (some false) else (if x3 > 0 then (if 0 ≤ (wrap64 (x3 - 1)) then (if (wrap64 (x3 - 1)) < (x306001.length : Int) then (if ((rd_T43 x306001 (wrap64 (x3 - 1))).f2) ≥ x310001 then (some false) else (if ((rd_T43 x306001 (wrap64 (x3 - 1))).f0) = x310000 then (some false) else (spec_TripOk.l0 k (wrap64 (x3 + 1)) x306000 x306001))) else (none)) else (none)) else (spec_TripOk.l0 k (wrap64 (x3 + 1)) x306000 x306001))
end
def spec_TripOk.f (k : Nat) (a0_0 : ByteArray) (l0_1 : List (S43)) : Option (Bool) := (spec_l01Name.f k a0_0).bind fun t306 => (if t306 = true then ((spec_l01In.f (l0_1.length : Int) 2 12).bind fun t307 => (spec_TripOk.j0 k (!t307) a0_0 l0_1)) else (spec_TripOk.j0 k true a0_0 l0_1))
mutual
def spec_TableOk.l0 : Nat → List (S46) → Int → Option (Bool)
  | 0, _, _ => none
  | k + 1, x0, x3 => if x3 < (x0.length : Int) then (if 0 ≤ x3 then ((spec_TripOk.f k ((rd_T46 x0 x3).f0) ((rd_T46 x0 x3).f1)).bind fun t316 => (if t316 = true then (spec_TableOk.l1 k x0 x3 0) else (some false))) else (none)) else (some true)
def spec_TableOk.l1 : Nat → List (S46) → Int → Int → Option (Bool)
  | 0, _, _, _ => none
  | k + 1, x0, x3, x4 => if x4 < x3 then (if 0 ≤ x4 then (if x4 < (x0.length : Int) then (if 0 ≤ x3 then (if x3 < (x0.length : Int) then (if ((rd_T46 x0 x4).f0).toList = ((rd_T46 x0 x3).f0).toList then (some false) else (spec_TableOk.l1 k x0 x3 (wrap64 (x4 + 1)))) else (none)) else (none)) else (none)) else (none)) else (spec_TableOk.l0 k x0 (wrap64 (x3 + 1)))
end
def spec_TableOk.f (k : Nat) (l0 : List (S46)) : Option (Bool) := if (l0.length : Int) > 24 then (some false) else (spec_TableOk.l0 k l0 0)
def spec_l12Change.f (a0 : Int) : Option (Bool) := (spec_l01In.f a0 0 60).bind fun t319 => (some t319)
def spec_l12Asked.f (k : Nat) (l0 : List (S46)) (a1 : Int) (a2 : Int) (a3 : Int) (a4 : Int) (a5 : Int) : Option (Bool) := (spec_TableOk.f k l0).bind fun t320 => (if t320 = true then ((spec_l01In.f a1 0 29).bind fun t321 => (if t321 = true then ((spec_l01In.f a2 0 29).bind fun t322 => (if t322 = true then ((spec_l01In.f a3 0 100000).bind fun t323 => (if t323 = true then ((spec_l12Change.f a4).bind fun t324 => (if t324 = true then ((spec_l01In.f a5 0 5).bind fun t325 => (some t325)) else (some false))) else (some false))) else (some false))) else (some false))) else (some false))
def spec_l01Copy.l0 : Nat → List Int → List Int → Int → Option (List Int)
  | 0, _, _, _ => none
  | k + 1, x0, x3, x4 => if x4 < (x0.length : Int) then (if 0 ≤ x4 then (if x3.length < 17592186044416 then (spec_l01Copy.l0 k x0 (x3 ++ [rd x0 x4]) (wrap64 (x4 + 1))) else (none)) else (none)) else (some x3)
def spec_l01Copy.f (k : Nat) (l0 : List Int) : Option (List Int) := spec_l01Copy.l0 k l0 (([] : List Int)) 0
mutual
def spec_l12Reach.l0 : Nat → List (S46) → Int → Int → Int → Int → List Int → Int → Option (List Int)
  | 0, _, _, _, _, _, _, _ => none
  | k + 1, x0, x1, x2, x3, x4, x11, x12 => if x12 < 30 then (if x11.length < 17592186044416 then (spec_l12Reach.l0 k x0 x1 x2 x3 x4 (x11 ++ [(-1)]) (wrap64 (x12 + 1))) else (none)) else (if 0 ≤ x1 then (if x1 < (x11.length : Int) then (spec_l12Reach.l1 k x0 x1 x3 x4 (x11.set (x1 : Int).toNat x2) 0) else (none)) else (none))
def spec_l12Reach.l1 : Nat → List (S46) → Int → Int → Int → List Int → Int → Option (List Int)
  | 0, _, _, _, _, _, _ => none
  | k + 1, x0, x1, x3, x4, x11, x13 => if x13 < x4 then ((spec_l01Copy.f k x11).bind fun t340 => (spec_l12Reach.l2 k x0 x1 x3 x4 x11 x13 t340 0)) else (some x11)
def spec_l12Reach.l2 : Nat → List (S46) → Int → Int → Int → List Int → Int → List Int → Int → Option (List Int)
  | 0, _, _, _, _, _, _, _, _ => none
  | k + 1, x0, x1, x3, x4, x11, x13, x14, x15 => if x15 < (x0.length : Int) then (if 0 ≤ x15 then (spec_l12Reach.l3 k x0 x1 x3 x4 x11 x13 x14 x15 ((rd_T46 x0 x15).f1) 0) else (none)) else (spec_l12Reach.l1 k x0 x1 x3 x4 x14 (wrap64 (x13 + 1)))
def spec_l12Reach.l3 : Nat → List (S46) → Int → Int → Int → List Int → Int → List Int → Int → List (S43) → Int → Option (List Int)
  | 0, _, _, _, _, _, _, _, _, _, _ => none
  | k + 1, x0, x1, x3, x4, x11, x13, x14, x15, x16, x17 => if x17 < (x16.length : Int) then (if 0 ≤ x17 then (if 0 ≤ ((rd_T43 x16 x17).f0) then (if ((rd_T43 x16 x17).f0) < (x11.length : Int) then (if ((rd_T43 x16 x17).f0) = x1 then (spec_l12Reach.j4 k x0 x1 x3 x4 x11 x13 x14 x15 x16 x17 (rd x11 ((rd_T43 x16 x17).f0)) 0) else (spec_l12Reach.j4 k x0 x1 x3 x4 x11 x13 x14 x15 x16 x17 (rd x11 ((rd_T43 x16 x17).f0)) x3)) else (none)) else (none)) else (none)) else (spec_l12Reach.l2 k x0 x1 x3 x4 x11 x13 x14 (wrap64 (x15 + 1)))
def spec_l12Reach.j4 : Nat → List (S46) → Int → Int → Int → List Int → Int → List Int → Int → List (S43) → Int → Int → Int → Option (List Int)
  | 0, _, _, _, _, _, _, _, _, _, _, _, _ => none
  | k + 1, x0, x1, x3, x4, x11, x13, x14, x15, x16, x17, x18, x19 => if x18 < 0 then (spec_l12Reach.j5 k x0 x1 x3 x4 x11 x13 x14 x15 x16 x17 true) else (if 0 ≤ x17 then (if x17 < (x16.length : Int) then (spec_l12Reach.j5 k x0 x1 x3 x4 x11 x13 x14 x15 x16 x17 (decide (((rd_T43 x16 x17).f2) < (wrap64 (x18 + x19))))) else (none)) else (none))
def spec_l12Reach.j5 : Nat → List (S46) → Int → Int → Int → List Int → Int → List Int → Int → List (S43) → Int → Bool → Option (List Int)
  | 0, _, _, _, _, _, _, _, _, _, _, _ => none
  | k + 1, x0, x1, x3, x4, x11, x13, x14, x15, x16, x17, x86 => if x86 = true then (spec_l12Reach.l3 k x0 x1 x3 x4 x11 x13 x14 x15 x16 (wrap64 (x17 + 1))) else (spec_l12Reach.l4 k x0 x1 x3 x4 x11 x13 x14 x15 x16 x17 (wrap64 (x17 + 1)))
def spec_l12Reach.l4 : Nat → List (S46) → Int → Int → Int → List Int → Int → List Int → Int → List (S43) → Int → Int → Option (List Int)
  | 0, _, _, _, _, _, _, _, _, _, _, _ => none
  | k + 1, x0, x1, x3, x4, x11, x13, x14, x15, x16, x17, x20 => if x20 < (x16.length : Int) then (if 0 ≤ x20 then (if 0 ≤ ((rd_T43 x16 x20).f0) then (if ((rd_T43 x16 x20).f0) < (x14.length : Int) then (if (rd x14 ((rd_T43 x16 x20).f0)) < 0 then (spec_l12Reach.l4 k x0 x1 x3 x4 x11 x13 (x14.set (((rd_T43 x16 x20).f0) : Int).toNat ((rd_T43 x16 x20).f1)) x15 x16 x17 (wrap64 (x20 + 1))) else (if ((rd_T43 x16 x20).f1) < (rd x14 ((rd_T43 x16 x20).f0)) then (spec_l12Reach.l4 k x0 x1 x3 x4 x11 x13 (x14.set (((rd_T43 x16 x20).f0) : Int).toNat ((rd_T43 x16 x20).f1)) x15 x16 x17 (wrap64 (x20 + 1))) else (spec_l12Reach.l4 k x0 x1 x3 x4 x11 x13 x14 x15 x16 x17 (wrap64 (x20 + 1))))) else (none)) else (none)) else (none)) else (spec_l12Reach.l3 k x0 x1 x3 x4 x11 x13 x14 x15 x16 (wrap64 (x17 + 1)))
end
def spec_l12Reach.f (k : Nat) (l0 : List (S46)) (a1 : Int) (a2 : Int) (a3 : Int) (a4 : Int) : Option (List Int) := spec_l12Reach.l0 k l0 a1 a2 a3 a4 (([] : List Int)) 0
def spec_Soonest.f (k : Nat) (l0 : List (S46)) (a1 : Int) (a2 : Int) (a3 : Int) (a4 : Int) (a5 : Int) : Option (Int) := (spec_l12Asked.f k l0 a1 a2 a3 a4 a5).bind fun t357 => (if t357 = true then ((spec_l12Reach.f k l0 a1 a3 a4 a5).bind fun t358 => (if 0 ≤ a2 then (if a2 < (t358.length : Int) then (some (rd t358 a2)) else (none)) else (none))) else (some (-1)))
mutual
def spec_LegsOk.j0 : Nat → List (S46) → List (S48) → Int → Bool → Option (Bool)
  | 0, _, _, _, _ => none
  | k + 1, x0, x1, x2, x23 => if x23 = true then (some false) else (spec_LegsOk.l0 k x0 x1 x2 0)
def spec_LegsOk.l0 : Nat → List (S46) → List (S48) → Int → Int → Option (Bool)
  | 0, _, _, _, _ => none
  | k + 1, x0, x1, x2, x7 => if x7 < (x1.length : Int) then (if 0 ≤ x7 then ((spec_l01In.f ((rd_T48 x1 x7).f0) 0 (wrap64 ((x0.length : Int) - 1))).bind fun t366 => (if t366 = true then (if 0 ≤ ((rd_T48 x1 x7).f0) then (if ((rd_T48 x1 x7).f0) < (x0.length : Int) then ((spec_l01In.f ((rd_T48 x1 x7).f2) 0 (wrap64 ((((rd_T46 x0 ((rd_T48 x1 x7).f0)).f1).length : Int) - 1))).bind fun t368 => (if t368 = true then ((spec_l01In.f ((rd_T48 x1 x7).f1) 0 (wrap64 (((rd_T48 x1 x7).f2) - 1))).bind fun t369 => (spec_LegsOk.j2 k x0 x1 x2 x7 (!t369) ((rd_T48 x1 x7).f0) ((rd_T48 x1 x7).f1) ((rd_T48 x1 x7).f2))) else (spec_LegsOk.j2 k x0 x1 x2 x7 true ((rd_T48 x1 x7).f0) ((rd_T48 x1 x7).f1) ((rd_T48 x1 x7).f2)))) else (none)) else (none)) else (spec_LegsOk.j2 k x0 x1 x2 x7 true ((rd_T48 x1 x7).f0) ((rd_T48 x1 x7).f1) ((rd_T48 x1 x7).f2)))) else (none)) else (some true)
def spec_LegsOk.j2 : Nat → List (S46) → List (S48) → Int → Int → Bool → Int → Int → Int → Option (Bool)
  | 0, _, _, _, _, _, _, _, _ => none
  | k + 1, x0, x1, x2, x7, x63, x366000, x366001, x366002 => if x63 = true then (some false) else (if x7 > 0 then (if 0 ≤ (wrap64 (x7 - 1)) then (if (wrap64 (x7 - 1)) < (x1.length : Int) then (if 0 ≤ ((rd_T48 x1 (wrap64 (x7 - 1))).f0) then (if ((rd_T48 x1 (wrap64 (x7 - 1))).f0) < (x0.length : Int) then (if 0 ≤ ((rd_T48 x1 (wrap64 (x7 - 1))).f2) then (if ((rd_T48 x1 (wrap64 (x7 - 1))).f2) < (((rd_T46 x0 ((rd_T48 x1 (wrap64 (x7 - 1))).f0)).f1).length : Int) then (if 0 ≤ x366000 then (if x366000 < (x0.length : Int) then (if 0 ≤ x366001 then (if x366001 < (((rd_T46 x0 x366000).f1).length : Int) then (if ((rd_T43 ((rd_T46 x0 ((rd_T48 x1 (wrap64 (x7 - 1))).f0)).f1) ((rd_T48 x1 (wrap64 (x7 - 1))).f2)).f0) = ((rd_T43 ((rd_T46 x0 x366000).f1) x366001).f0) then (if ((rd_T43 ((rd_T46 x0 x366000).f1) x366001).f2) < (wrap64 (((rd_T43 ((rd_T46 x0 ((rd_T48 x1 (wrap64 (x7 - 1))).f0)).f1) ((rd_T48 x1 (wrap64 (x7 - 1))).f2)).f1) + x2)) then (some false) else (spec_LegsOk.l0 k x0 x1 x2 (wrap64 (x7 + 1)))) else (some false)) else (none)) else (none)) else (none)) else (none)) else (none)) else (none)) else (none)) else (none)) else (none)) else (none)) else (spec_LegsOk.l0 k x0 x1 x2 (wrap64 (x7 + 1))))
end
def spec_LegsOk.f (k : Nat) (l0 : List (S46)) (l1 : List (S48)) (a2 : Int) : Option (Bool) := (spec_TableOk.f k l0).bind fun t362 => (if t362 = true then ((spec_l12Change.f a2).bind fun t363 => (if t363 = true then (spec_LegsOk.j0 k l0 l1 a2 (decide ((l1.length : Int) > 5))) else (spec_LegsOk.j0 k l0 l1 a2 true))) else (spec_LegsOk.j0 k l0 l1 a2 true))
mutual
def laws_FnJourney.j0 : Nat → List (S46) → Int → Int → Int → Int → Int → Int → List (S48) → Bool → Option (Bool)
  | 0, _, _, _, _, _, _, _, _, _ => none
  | k + 1, x3, x4, x5, x6, x7, x8, x9, x10, x60 => if x60 = true then (if (x10.length : Int) = 0 then (if x4 = x5 then (some (x9 == x6)) else (some true)) else (some false)) else (if (x10.length : Int) = 0 then (laws_FnJourney.j1 k x3 x4 x5 x6 x7 x9 x10 true) else (if (x10.length : Int) > x8 then (laws_FnJourney.j1 k x3 x4 x5 x6 x7 x9 x10 true) else ((impl_LegsOk.f k x3 x10 x7).bind fun t392 => (if t392 = true then ((spec_LegsOk.f k x3 x10 x7).bind fun t393 => (laws_FnJourney.j1 k x3 x4 x5 x6 x7 x9 x10 (!t393))) else (laws_FnJourney.j1 k x3 x4 x5 x6 x7 x9 x10 true)))))
def laws_FnJourney.j1 : Nat → List (S46) → Int → Int → Int → Int → Int → List (S48) → Bool → Option (Bool)
  | 0, _, _, _, _, _, _, _, _ => none
  | k + 1, x3, x4, x5, x6, x7, x9, x10, x96 => if x96 = true then (some false) else (if 0 < (x10.length : Int) then (if 0 ≤ ((rd_T48 x10 0).f0) then (if ((rd_T48 x10 0).f0) < (x3.length : Int) then (if 0 ≤ ((rd_T48 x10 0).f1) then (if ((rd_T48 x10 0).f1) < (((rd_T46 x3 ((rd_T48 x10 0).f0)).f1).length : Int) then (if 0 ≤ (wrap64 ((x10.length : Int) - 1)) then (if (wrap64 ((x10.length : Int) - 1)) < (x10.length : Int) then (if 0 ≤ ((rd_T48 x10 (wrap64 ((x10.length : Int) - 1))).f0) then (if ((rd_T48 x10 (wrap64 ((x10.length : Int) - 1))).f0) < (x3.length : Int) then (if 0 ≤ ((rd_T48 x10 (wrap64 ((x10.length : Int) - 1))).f2) then (if ((rd_T48 x10 (wrap64 ((x10.length : Int) - 1))).f2) < (((rd_T46 x3 ((rd_T48 x10 (wrap64 ((x10.length : Int) - 1))).f0)).f1).length : Int) then (if ((rd_T43 ((rd_T46 x3 ((rd_T48 x10 0).f0)).f1) ((rd_T48 x10 0).f1)).f0) = x4 then (if ((rd_T43 ((rd_T46 x3 ((rd_T48 x10 0).f0)).f1) ((rd_T48 x10 0).f1)).f2) < x6 then (laws_FnJourney.j2 k x3 x4 x5 x6 x7 x9 x10 true) else (if ((rd_T43 ((rd_T46 x3 ((rd_T48 x10 (wrap64 ((x10.length : Int) - 1))).f0)).f1) ((rd_T48 x10 (wrap64 ((x10.length : Int) - 1))).f2)).f0) = x5 then (laws_FnJourney.j2 k x3 x4 x5 x6 x7 x9 x10 (((rd_T43 ((rd_T46 x3 ((rd_T48 x10 (wrap64 ((x10.length : Int) - 1))).f0)).f1) ((rd_T48 x10 (wrap64 ((x10.length : Int) - 1))).f2)).f1) != x9)) else (laws_FnJourney.j2 k x3 x4 x5 x6 x7 x9 x10 true))) else (laws_FnJourney.j2 k x3 x4 x5 x6 x7 x9 x10 true)) else (none)) else (none)) else (none)) else (none)) else (none)) else (none)) else (none)) else (none)) else (none)) else (none)) else (none))
def laws_FnJourney.j2 : Nat → List (S46) → Int → Int → Int → Int → Int → List (S48) → Bool → Option (Bool)
  | 0, _, _, _, _, _, _, _, _ => none
  | k + 1, x3, x4, x5, x6, x7, x9, x10, x152 => if x152 = true then (some false) else (if (x10.length : Int) > 1 then ((impl_Soonest.f k x3 x4 x5 x6 x7 (wrap64 ((x10.length : Int) - 1))).bind fun t404 => (laws_FnJourney.j3 k x3 x4 x5 x6 x7 x9 x10 (t404 == x9))) else (laws_FnJourney.j3 k x3 x4 x5 x6 x7 x9 x10 false))
def laws_FnJourney.j3 : Nat → List (S46) → Int → Int → Int → Int → Int → List (S48) → Bool → Option (Bool)
  | 0, _, _, _, _, _, _, _, _ => none
  | k + 1, x3, x4, x5, x6, x7, x9, x10, x168 => if x168 = true then (some false) else (laws_FnJourney.l0 k x3 x4 x5 x6 x7 x9 x10 0)
def laws_FnJourney.l0 : Nat → List (S46) → Int → Int → Int → Int → Int → List (S48) → Int → Option (Bool)
  | 0, _, _, _, _, _, _, _, _ => none
  | k + 1, x3, x4, x5, x6, x7, x9, x10, x13 => if x13 < (x3.length : Int) then (if 0 ≤ x13 then (laws_FnJourney.l1 k x3 x4 x5 x6 x7 x9 x10 x13 ((rd_T46 x3 x13).f1) 0) else (none)) else ((impl_JourneyText.f k x3 x10 x7).bind fun t405 => (some (t405.toList != ([] : List UInt8))))
def laws_FnJourney.l1 : Nat → List (S46) → Int → Int → Int → Int → Int → List (S48) → Int → List (S43) → Int → Option (Bool)
  | 0, _, _, _, _, _, _, _, _, _, _ => none
  | k + 1, x3, x4, x5, x6, x7, x9, x10, x13, x14, x15 => if x15 < (x14.length : Int) then (laws_FnJourney.l2 k x3 x4 x5 x6 x7 x9 x10 x13 x14 x15 (wrap64 (x15 + 1))) else (laws_FnJourney.l0 k x3 x4 x5 x6 x7 x9 x10 (wrap64 (x13 + 1)))
def laws_FnJourney.l2 : Nat → List (S46) → Int → Int → Int → Int → Int → List (S48) → Int → List (S43) → Int → Int → Option (Bool)
  | 0, _, _, _, _, _, _, _, _, _, _, _ => none
  | k + 1, x3, x4, x5, x6, x7, x9, x10, x13, x14, x15, x16 => if x16 < (x14.length : Int) then (if 0 ≤ x15 then (if x15 < (x14.length : Int) then (if ((rd_T43 x14 x15).f0) = x4 then (if ((rd_T43 x14 x15).f2) ≥ x6 then (if 0 ≤ x16 then (if ((rd_T43 x14 x16).f0) = x5 then (if ((rd_T43 x14 x16).f1) < x9 then (some false) else (laws_FnJourney.l2 k x3 x4 x5 x6 x7 x9 x10 x13 x14 x15 (wrap64 (x16 + 1)))) else (laws_FnJourney.l2 k x3 x4 x5 x6 x7 x9 x10 x13 x14 x15 (wrap64 (x16 + 1)))) else (none)) else (laws_FnJourney.l2 k x3 x4 x5 x6 x7 x9 x10 x13 x14 x15 (wrap64 (x16 + 1)))) else (laws_FnJourney.l2 k x3 x4 x5 x6 x7 x9 x10 x13 x14 x15 (wrap64 (x16 + 1)))) else (none)) else (none)) else (laws_FnJourney.l1 k x3 x4 x5 x6 x7 x9 x10 x13 x14 (wrap64 (x15 + 1)))
end
def laws_FnJourney.f (k : Nat) (l0 : List Int) : Option (Bool) := (laws_big.f l0).bind fun t378 => (if t378 = true then (some true) else ((spec_DrawRightQuestion.f k l0).bind fun bt379 => ((laws_at.f l0 5).bind fun t386 => ((impl_Soonest.f k bt379.1 bt379.2.1 bt379.2.2.1 bt379.2.2.2.1 bt379.2.2.2.2 (wrap64 (1 + (Int.tmod t386 5)))).bind fun t387 => ((impl_Journey.f k bt379.1 bt379.2.1 bt379.2.2.1 bt379.2.2.2.1 bt379.2.2.2.2 (wrap64 (1 + (Int.tmod t386 5)))).bind fun t388 => ((spec_Soonest.f k bt379.1 bt379.2.1 bt379.2.2.1 bt379.2.2.2.1 bt379.2.2.2.2 (wrap64 (1 + (Int.tmod t386 5)))).bind fun t391 => (if t387 = t391 then (if t387 < 0 then (laws_FnJourney.j0 k bt379.1 bt379.2.1 bt379.2.2.1 bt379.2.2.2.1 bt379.2.2.2.2 (wrap64 (1 + (Int.tmod t386 5))) t387 t388 true) else (laws_FnJourney.j0 k bt379.1 bt379.2.1 bt379.2.2.1 bt379.2.2.2.1 bt379.2.2.2.2 (wrap64 (1 + (Int.tmod t386 5))) t387 t388 (bt379.2.1 == bt379.2.2.1))) else (some false))))))))
def laws_FnJourney.Pure : Prop := ∀ (l0 : List Int), l0.length ≤ maxLen → l0.length * 1 ≤ 140737488351232 → (∀ x ∈ l0, (Lit.int .u8 x).wf = true) → ∃ k, laws_FnJourney.f k l0 = some true
end Go.Proofs.YtdpjoblnjjkbfaaDoor.P

/- The functions of the program as plain Lean functions, without memory and machine; written by a program of the session. -/
import Derived.Test.YtklikbjlfaednaaProg
import Derived.Test.YtklikbjlfaednaaV
namespace Go.Proofs.Ytklikbjlfaednaa.P
open Go.RowKit Go.Proofs.YtklikbjlfaednaaW.PrintWords Go.Proofs.YtklikbjlfaednaaW.PrintLast Go.Proofs.YtklikbjlfaednaaW.PrintMore
set_option linter.unusedVariables false

structure S89 where
  f0 : Int
  f1 : Int
  f2 : Int
  f3 : Int
def z89 : S89 := ⟨(0 : Int), (0 : Int), (0 : Int), (0 : Int)⟩
def rd_T89 (xs : List S89) (i : Int) : S89 := xs.getD i.toNat z89
structure S66 where
  f0 : Int
  f1 : Int
  f2 : Int
  f3 : Int
def z66 : S66 := ⟨(0 : Int), (0 : Int), (0 : Int), (0 : Int)⟩
def rd_T66 (xs : List S66) (i : Int) : S66 := xs.getD i.toNat z66
def rd_L4 (xs : List (List S89)) (i : Int) : (List S89) := xs.getD i.toNat ([] : List S89)
structure S24 where
  f0 : Int
  f1 : Int
  f2 : (List S89)
def z24 : S24 := ⟨(0 : Int), (0 : Int), ([] : List S89)⟩
def rd_T24 (xs : List S24) (i : Int) : S24 := xs.getD i.toNat z24
def laws_szBookingS.f (l0 : List (S89)) (a1 : Int) : Option (Int) := if (wrap64 (a1 - (l0.length : Int))) < 0 then (some (-1)) else (some (wrap64 (a1 - (l0.length : Int))))
def laws_szTrain.f (a0_0 : Int) (a0_1 : Int) (l0_2 : List (S89)) (a1 : Int) : Option (Int) := (laws_szBookingS.f l0_2 a1).bind fun t102 => (if t102 < 0 then (some (-1)) else (some t102))
def laws_toBooking.f (a0_0 : Int) (a0_1 : Int) (a0_2 : Int) (a0_3 : Int) : Option (Int × Int × Int × Int) := some (a0_0, a0_1, a0_2, a0_3)
def laws_toBookingS.l0 : Nat → List (S89) → List (S66) → Int → Option ((List (S66)))
  | 0, _, _, _ => none
  | k + 1, x0, x3, x4 => if x4 < (x0.length : Int) then (if 0 ≤ x4 then ((laws_toBooking.f ((rd_T89 x0 x4).f0) ((rd_T89 x0 x4).f1) ((rd_T89 x0 x4).f2) ((rd_T89 x0 x4).f3)).bind fun bt110 => (if x4 < (x3.length : Int) then (laws_toBookingS.l0 k x0 (x3.set (x4 : Int).toNat (⟨bt110.1, bt110.2.1, bt110.2.2.1, bt110.2.2.2⟩ : S66)) (wrap64 (x4 + 1))) else (none))) else (none)) else (some x3)
def laws_toBookingS.f (k : Nat) (l0 : List (S89)) : Option ((List (S66))) := if 0 ≤ (l0.length : Int) then (if ((l0.length : Int) : Int).toNat ≤ 8796093022208 then (laws_toBookingS.l0 k l0 (List.replicate ((l0.length : Int) : Int).toNat z66) 0) else (none)) else (none)
def laws_toTrain.f (k : Nat) (a0_0 : Int) (a0_1 : Int) (l0_2 : List (S89)) : Option (Int × Int × (List (S66))) := (laws_toBookingS.f k l0_2).bind fun t118 => (some (a0_0, a0_1, t118))
def laws_eqBooking.f (a0_0 : Int) (a0_1 : Int) (a0_2 : Int) (a0_3 : Int) (a1_0 : Int) (a1_1 : Int) (a1_2 : Int) (a1_3 : Int) : Option (Bool) := if a0_0 = a1_0 then (if a0_1 = a1_1 then (if a0_2 = a1_2 then (if a0_3 = a1_3 then (some true) else (some false)) else (some false)) else (some false)) else (some false)
def laws_eqBookingS.l0 : Nat → List (S66) → List (S66) → Int → Option (Bool)
  | 0, _, _, _ => none
  | k + 1, x0, x1, x5 => if x5 < (x0.length : Int) then (if 0 ≤ x5 then (if x5 < (x1.length : Int) then ((laws_eqBooking.f ((rd_T66 x0 x5).f0) ((rd_T66 x0 x5).f1) ((rd_T66 x0 x5).f2) ((rd_T66 x0 x5).f3) ((rd_T66 x1 x5).f0) ((rd_T66 x1 x5).f1) ((rd_T66 x1 x5).f2) ((rd_T66 x1 x5).f3)).bind fun t125 => (if t125 = true then (laws_eqBookingS.l0 k x0 x1 (wrap64 (x5 + 1))) else (some false))) else (none)) else (none)) else (some true)
def laws_eqBookingS.f (k : Nat) (l0 : List (S66)) (l1 : List (S66)) : Option (Bool) := if (l0.length : Int) = (l1.length : Int) then (laws_eqBookingS.l0 k l0 l1 0) else (some false)
def laws_eqTrain.f (k : Nat) (a0_0 : Int) (a0_1 : Int) (l0_2 : List (S66)) (a1_0 : Int) (a1_1 : Int) (l1_2 : List (S66)) : Option (Bool) := if a0_0 = a1_0 then (if a0_1 = a1_1 then ((laws_eqBookingS.f k l0_2 l1_2).bind fun t128 => (if t128 = true then (some true) else (some false))) else (some false)) else (some false)
def laws_markBookingS.l0 : Nat → List (S66) → Int → Int → Option (Int × (List (S66)))
  | 0, _, _, _ => none
  | k + 1, x0, x1, x5 => if x5 < (x0.length : Int) then (if 0 ≤ x5 then ((some (x0.set (x5 : Int).toNat (⟨x1, (rd_T66 x0 x5).f1, (rd_T66 x0 x5).f2, (rd_T66 x0 x5).f3⟩ : S66) : List (S66))).bind fun y129 => ((some (y129.set (x5 : Int).toNat (⟨(rd_T66 y129 x5).f0, wrap64 (x1 + 1), (rd_T66 y129 x5).f2, (rd_T66 y129 x5).f3⟩ : S66) : List (S66))).bind fun y130 => ((some (y130.set (x5 : Int).toNat (⟨(rd_T66 y130 x5).f0, (rd_T66 y130 x5).f1, wrap64 ((wrap64 (x1 + 1)) + 1), (rd_T66 y130 x5).f3⟩ : S66) : List (S66))).bind fun y131 => (laws_markBookingS.l0 k (y131.set (x5 : Int).toNat (⟨(rd_T66 y131 x5).f0, (rd_T66 y131 x5).f1, (rd_T66 y131 x5).f2, wrap64 ((wrap64 ((wrap64 (x1 + 1)) + 1)) + 1)⟩ : S66)) (wrap64 ((wrap64 ((wrap64 ((wrap64 (x1 + 1)) + 1)) + 1)) + 1)) (wrap64 (x5 + 1)))))) else (none)) else (some (x1, x0))
def laws_markBookingS.f (k : Nat) (l0 : List (S66)) (a1 : Int) : Option (Int × (List (S66))) := laws_markBookingS.l0 k l0 a1 0
def laws_markTrain.f (k : Nat) (a0_0 : Int) (a0_1 : Int) (l0_2 : List (S66)) (a1 : Int) : Option (Int × (List (S66))) := (laws_markBookingS.f k l0_2 a1).bind fun bt134 => (some (bt134.1, bt134.2))
def laws_heldBookingS.l0 : Nat → List (S66) → Int → Int → Option (Int)
  | 0, _, _, _ => none
  | k + 1, x0, x1, x5 => if x5 < (x0.length : Int) then (if 0 ≤ x5 then (if ((rd_T66 x0 x5).f0) = x1 then (if ((rd_T66 x0 x5).f1) = (wrap64 (x1 + 1)) then (if ((rd_T66 x0 x5).f2) = (wrap64 ((wrap64 (x1 + 1)) + 1)) then (if ((rd_T66 x0 x5).f3) = (wrap64 ((wrap64 ((wrap64 (x1 + 1)) + 1)) + 1)) then (laws_heldBookingS.l0 k x0 (wrap64 ((wrap64 ((wrap64 ((wrap64 (x1 + 1)) + 1)) + 1)) + 1)) (wrap64 (x5 + 1))) else (some (-1))) else (some (-1))) else (some (-1))) else (some (-1))) else (none)) else (some x1)
def laws_heldBookingS.f (k : Nat) (l0 : List (S66)) (a1 : Int) : Option (Int) := laws_heldBookingS.l0 k l0 a1 0
def laws_heldTrain.f (k : Nat) (a0_0 : Int) (a0_1 : Int) (l0_2 : List (S66)) (a1 : Int) : Option (Int) := (laws_heldBookingS.f k l0_2 a1).bind fun t141 => (if t141 < 0 then (some (-1)) else (some t141))
def spec_l01In.f (a0 : Int) (a1 : Int) (a2 : Int) : Option (Bool) := if a1 ≤ a0 then (some (decide (a0 ≤ a2))) else (some false)
mutual
def spec_TrainOk.j0 : Nat → Bool → Int → Int → List (S66) → Option (Bool)
  | 0, _, _, _, _ => none
  | k + 1, x22, x143000, x143001, x143002 => if x22 = true then (some false) else (spec_TrainOk.l0 k 0 x143000 x143001 x143002)
def spec_TrainOk.l0 : Nat → Int → Int → Int → List (S66) → Option (Bool)
  | 0, _, _, _, _ => none
  | k + 1, x3, x143000, x143001, x143002 => if x3 < (x143002.length : Int) then (if 0 ≤ x3 then (if ((rd_T66 x143002 x3).f0) ≤ 0 then (spec_TrainOk.j2 k x3 true x143000 x143001 x143002 ((rd_T66 x143002 x3).f0) ((rd_T66 x143002 x3).f1) ((rd_T66 x143002 x3).f2) ((rd_T66 x143002 x3).f3)) else (if x3 > 0 then (if 0 ≤ (wrap64 (x3 - 1)) then (if (wrap64 (x3 - 1)) < (x143002.length : Int) then (if ((rd_T66 x143002 (wrap64 (x3 - 1))).f0) ≥ ((rd_T66 x143002 x3).f0) then (spec_TrainOk.j2 k x3 true x143000 x143001 x143002 ((rd_T66 x143002 x3).f0) ((rd_T66 x143002 x3).f1) ((rd_T66 x143002 x3).f2) ((rd_T66 x143002 x3).f3)) else ((spec_l01In.f ((rd_T66 x143002 x3).f1) 0 (wrap64 (x143000 - 1))).bind fun t148 => (if t148 = true then ((spec_l01In.f ((rd_T66 x143002 x3).f3) 1 x143001).bind fun t149 => (if t149 = true then ((spec_l01In.f ((rd_T66 x143002 x3).f2) 0 (wrap64 (((rd_T66 x143002 x3).f3) - 1))).bind fun t150 => (spec_TrainOk.j2 k x3 (!t150) x143000 x143001 x143002 ((rd_T66 x143002 x3).f0) ((rd_T66 x143002 x3).f1) ((rd_T66 x143002 x3).f2) ((rd_T66 x143002 x3).f3))) else (spec_TrainOk.j2 k x3 true x143000 x143001 x143002 ((rd_T66 x143002 x3).f0) ((rd_T66 x143002 x3).f1) ((rd_T66 x143002 x3).f2) ((rd_T66 x143002 x3).f3)))) else (spec_TrainOk.j2 k x3 true x143000 x143001 x143002 ((rd_T66 x143002 x3).f0) ((rd_T66 x143002 x3).f1) ((rd_T66 x143002 x3).f2) ((rd_T66 x143002 x3).f3))))) else (none)) else (none)) else ((spec_l01In.f ((rd_T66 x143002 x3).f1) 0 (wrap64 (x143000 - 1))).bind fun t151 => (if t151 = true then ((spec_l01In.f ((rd_T66 x143002 x3).f3) 1 x143001).bind fun t152 => (if t152 = true then ((spec_l01In.f ((rd_T66 x143002 x3).f2) 0 (wrap64 (((rd_T66 x143002 x3).f3) - 1))).bind fun t153 => (spec_TrainOk.j2 k x3 (!t153) x143000 x143001 x143002 ((rd_T66 x143002 x3).f0) ((rd_T66 x143002 x3).f1) ((rd_T66 x143002 x3).f2) ((rd_T66 x143002 x3).f3))) else (spec_TrainOk.j2 k x3 true x143000 x143001 x143002 ((rd_T66 x143002 x3).f0) ((rd_T66 x143002 x3).f1) ((rd_T66 x143002 x3).f2) ((rd_T66 x143002 x3).f3)))) else (spec_TrainOk.j2 k x3 true x143000 x143001 x143002 ((rd_T66 x143002 x3).f0) ((rd_T66 x143002 x3).f1) ((rd_T66 x143002 x3).f2) ((rd_T66 x143002 x3).f3)))))) else (none)) else (some true)
def spec_TrainOk.j2 : Nat → Int → Bool → Int → Int → List (S66) → Int → Int → Int → Int → Option (Bool)
  | 0, _, _, _, _, _, _, _, _, _ => none
  | k + 1, x3, x79, x143000, x143001, x143002, x147000, x147001, x147002, x147003 => if x79 = true then (some false) else (spec_TrainOk.l1 k x3 0 x143000 x143001 x143002 x147000 x147001 x147002 x147003)
def spec_TrainOk.l1 : Nat → Int → Int → Int → Int → List (S66) → Int → Int → Int → Int → Option (Bool)
  | 0, _, _, _, _, _, _, _, _, _ => none
  | k + 1, x3, x5, x143000, x143001, x143002, x147000, x147001, x147002, x147003 => if x5 < x3 then (if 0 ≤ x5 then (if x5 < (x143002.length : Int) then (if ((rd_T66 x143002 x5).f1) = x147001 then (if ((rd_T66 x143002 x5).f2) < x147003 then (if x147002 < ((rd_T66 x143002 x5).f3) then (some false) else (spec_TrainOk.l1 k x3 (wrap64 (x5 + 1)) x143000 x143001 x143002 x147000 x147001 x147002 x147003)) else (spec_TrainOk.l1 k x3 (wrap64 (x5 + 1)) x143000 x143001 x143002 x147000 x147001 x147002 x147003)) else (spec_TrainOk.l1 k x3 (wrap64 (x5 + 1)) x143000 x143001 x143002 x147000 x147001 x147002 x147003)) else (none)) else (none)) else (spec_TrainOk.l0 k (wrap64 (x3 + 1)) x143000 x143001 x143002)
end
def spec_TrainOk.f (k : Nat) (a0_0 : Int) (a0_1 : Int) (l0_2 : List (S66)) : Option (Bool) := (spec_l01In.f a0_0 1 60).bind fun t143 => (if t143 = true then ((spec_l01In.f a0_1 1 11).bind fun t144 => (if t144 = true then (spec_TrainOk.j0 k (decide ((l0_2.length : Int) > 200)) a0_0 a0_1 l0_2) else (spec_TrainOk.j0 k true a0_0 a0_1 l0_2))) else (spec_TrainOk.j0 k true a0_0 a0_1 l0_2))
def spec_l14Asked.f (k : Nat) (a0_0 : Int) (a0_1 : Int) (l0_2 : List (S66)) (a1 : Int) (a2 : Int) : Option (Bool) := (spec_TrainOk.f k a0_0 a0_1 l0_2).bind fun t157 => (if t157 = true then ((spec_l01In.f a2 1 a0_1).bind fun t158 => (if t158 = true then ((spec_l01In.f a1 0 (wrap64 (a2 - 1))).bind fun t159 => (some t159)) else (some false))) else (some false))
def spec_l14Free.l0 : Nat → Int → Int → Int → Int → Int → List (S66) → Option (Bool)
  | 0, _, _, _, _, _, _ => none
  | k + 1, x1, x2, x7, x161000, x161001, x161002 => if x7 < (x161002.length : Int) then (if 0 ≤ x7 then (if ((rd_T66 x161002 x7).f1) = x1 then ((spec_l01In.f x2 ((rd_T66 x161002 x7).f2) (wrap64 (((rd_T66 x161002 x7).f3) - 1))).bind fun t164 => (if t164 = true then (some false) else (spec_l14Free.l0 k x1 x2 (wrap64 (x7 + 1)) x161000 x161001 x161002))) else (spec_l14Free.l0 k x1 x2 (wrap64 (x7 + 1)) x161000 x161001 x161002)) else (none)) else (some true)
def spec_l14Free.f (k : Nat) (a0_0 : Int) (a0_1 : Int) (l0_2 : List (S66)) (a1 : Int) (a2 : Int) : Option (Bool) := spec_l14Free.l0 k a1 a2 0 a0_0 a0_1 l0_2
mutual
def spec_FreeSeats.l0 : Nat → Int → Int → List Int → Int → Int → Int → List (S66) → Option (List Int)
  | 0, _, _, _, _, _, _, _ => none
  | k + 1, x1, x2, x7, x8, x166000, x166001, x166002 => if x8 < x166000 then (spec_FreeSeats.l1 k x1 x2 x7 x8 true x1 x166000 x166001 x166002) else (some x7)
def spec_FreeSeats.l1 : Nat → Int → Int → List Int → Int → Bool → Int → Int → Int → List (S66) → Option (List Int)
  | 0, _, _, _, _, _, _, _, _, _ => none
  | k + 1, x1, x2, x7, x8, x9, x10, x166000, x166001, x166002 => if x10 < x2 then ((spec_l14Free.f k x166000 x166001 x166002 x8 x10).bind fun t170 => (if t170 = true then (spec_FreeSeats.l1 k x1 x2 x7 x8 x9 (wrap64 (x10 + 1)) x166000 x166001 x166002) else (spec_FreeSeats.l1 k x1 x2 x7 x8 false (wrap64 (x10 + 1)) x166000 x166001 x166002))) else (if x9 = true then (if x7.length < 17592186044416 then (spec_FreeSeats.l0 k x1 x2 (x7 ++ [x8]) (wrap64 (x8 + 1)) x166000 x166001 x166002) else (none)) else (spec_FreeSeats.l0 k x1 x2 x7 (wrap64 (x8 + 1)) x166000 x166001 x166002))
end
def spec_FreeSeats.f (k : Nat) (a0_0 : Int) (a0_1 : Int) (l0_2 : List (S66)) (a1 : Int) (a2 : Int) : Option (List Int) := (spec_l14Asked.f k a0_0 a0_1 l0_2 a1 a2).bind fun t166 => (if t166 = true then (spec_FreeSeats.l0 k a1 a2 (([] : List Int)) 0 a0_0 a0_1 l0_2) else (some ([] : List Int)))
def spec_l01Has.l0 : Nat → List Int → Int → Int → Option (Bool)
  | 0, _, _, _ => none
  | k + 1, x0, x1, x5 => if x5 < (x0.length : Int) then (if 0 ≤ x5 then (if (rd x0 x5) = x1 then (some true) else (spec_l01Has.l0 k x0 x1 (wrap64 (x5 + 1)))) else (none)) else (some false)
def spec_l01Has.f (k : Nat) (l0 : List Int) (a1 : Int) : Option (Bool) := spec_l01Has.l0 k l0 a1 0
mutual
def spec_Hole.j1 : Nat → Int → Int → Int → Int → Int → List (S66) → Option (Int)
  | 0, _, _, _, _, _, _ => none
  | k + 1, x1, x2, x3, x176000, x176001, x176002 => spec_Hole.l1 k x1 x2 x3 x176000 x176001 x176002
def spec_Hole.l1 : Nat → Int → Int → Int → Int → Int → List (S66) → Option (Int)
  | 0, _, _, _, _, _, _ => none
  | k + 1, x1, x2, x3, x176000, x176001, x176002 => if x3 < x176001 then ((spec_l14Free.f k x176000 x176001 x176002 x1 x3).bind fun t181 => (if t181 = true then (spec_Hole.l1 k x1 x2 (wrap64 (x3 + 1)) x176000 x176001 x176002) else (some (wrap64 (x3 - x2))))) else (some (wrap64 (x3 - x2)))
def spec_Hole.l0 : Nat → Int → Int → Int → Int → Int → List (S66) → Option (Int)
  | 0, _, _, _, _, _, _ => none
  | k + 1, x1, x2, x3, x176000, x176001, x176002 => if x2 > 0 then ((spec_l14Free.f k x176000 x176001 x176002 x1 (wrap64 (x2 - 1))).bind fun t180 => (if t180 = true then (spec_Hole.l0 k x1 (wrap64 (x2 - 1)) x3 x176000 x176001 x176002) else (spec_Hole.j1 k x1 x2 x3 x176000 x176001 x176002))) else (spec_Hole.j1 k x1 x2 x3 x176000 x176001 x176002)
end
def spec_Hole.f (k : Nat) (a0_0 : Int) (a0_1 : Int) (l0_2 : List (S66)) (a1 : Int) (a2 : Int) (a3 : Int) : Option (Int) := (spec_FreeSeats.f k a0_0 a0_1 l0_2 a2 a3).bind fun t176 => ((spec_l01Has.f k t176 a1).bind fun t179 => (if t179 = true then (spec_Hole.l0 k a1 a2 a3 a0_0 a0_1 l0_2) else (some 0)))
def spec_l14Same.l0 : Nat → Int → Int → Int → List (S66) → Int → Int → List (S66) → Option (Int × Int × (List (S66)))
  | 0, _, _, _, _, _, _, _ => none
  | k + 1, x4, x183000, x183001, x183002, x185000, x185001, x185002 => if x4 < (x183002.length : Int) then (if 0 ≤ x4 then (if x185002.length < 4398046511104 then (spec_l14Same.l0 k (wrap64 (x4 + 1)) x183000 x183001 x183002 x185000 x185001 (x185002 ++ [(⟨(rd_T66 x183002 x4).f0, (rd_T66 x183002 x4).f1, (rd_T66 x183002 x4).f2, (rd_T66 x183002 x4).f3⟩ : S66)])) else (none)) else (none)) else (some (x185000, x185001, x185002))
def spec_l14Same.f (k : Nat) (a0_0 : Int) (a0_1 : Int) (l0_2 : List (S66)) : Option (Int × Int × (List (S66))) := spec_l14Same.l0 k 0 a0_0 a0_1 l0_2 a0_0 a0_1 ([] : List (S66))
mutual
def spec_l14Held.l0 : Nat → Int → Bool → Int → Int → Int → List (S66) → Int → Int → Int → Int → Int → Int → List (S66) → Option (Int × Int × (List (S66)))
  | 0, _, _, _, _, _, _, _, _, _, _, _, _, _ => none
  | k + 1, x1, x8, x9, x190000, x190001, x190002, x191000, x191001, x191002, x191003, x193000, x193001, x193002 => if x9 < (x190002.length : Int) then (if x8 = true then (spec_l14Held.j1 k x1 x8 x9 false x190000 x190001 x190002 x191000 x191001 x191002 x191003 x193000 x193001 x193002) else (if 0 ≤ x9 then (spec_l14Held.j1 k x1 x8 x9 (decide (((rd_T66 x190002 x9).f0) > x191000)) x190000 x190001 x190002 x191000 x191001 x191002 x191003 x193000 x193001 x193002) else (none))) else (if x8 = true then (some (x193000, x193001, x193002)) else (if x193002.length < 4398046511104 then (some (x193000, x193001, (x193002 ++ [(⟨x191000, x191001, x191002, x191003⟩ : S66)]))) else (none)))
def spec_l14Held.j1 : Nat → Int → Bool → Int → Bool → Int → Int → List (S66) → Int → Int → Int → Int → Int → Int → List (S66) → Option (Int × Int × (List (S66)))
  | 0, _, _, _, _, _, _, _, _, _, _, _, _, _, _ => none
  | k + 1, x1, x8, x9, x37, x190000, x190001, x190002, x191000, x191001, x191002, x191003, x193000, x193001, x193002 => if x37 = true then (if x193002.length < 4398046511104 then ((some (x193002 ++ [(⟨x191000, x191001, x191002, x191003⟩ : S66)] : List (S66))).bind fun y197 => (if 0 ≤ x9 then (if x9 < (x190002.length : Int) then (if ((rd_T66 x190002 x9).f0) = x1 then (spec_l14Held.l0 k x1 true (wrap64 (x9 + 1)) x190000 x190001 x190002 x191000 x191001 x191002 x191003 x193000 x193001 y197) else (if y197.length < 4398046511104 then (spec_l14Held.l0 k x1 true (wrap64 (x9 + 1)) x190000 x190001 x190002 x191000 x191001 x191002 x191003 x193000 x193001 (y197 ++ [(⟨(rd_T66 x190002 x9).f0, (rd_T66 x190002 x9).f1, (rd_T66 x190002 x9).f2, (rd_T66 x190002 x9).f3⟩ : S66)])) else (none))) else (none)) else (none))) else (none)) else (if 0 ≤ x9 then (if x9 < (x190002.length : Int) then (if ((rd_T66 x190002 x9).f0) = x1 then (spec_l14Held.l0 k x1 x8 (wrap64 (x9 + 1)) x190000 x190001 x190002 x191000 x191001 x191002 x191003 x193000 x193001 x193002) else (if x193002.length < 4398046511104 then (spec_l14Held.l0 k x1 x8 (wrap64 (x9 + 1)) x190000 x190001 x190002 x191000 x191001 x191002 x191003 x193000 x193001 (x193002 ++ [(⟨(rd_T66 x190002 x9).f0, (rd_T66 x190002 x9).f1, (rd_T66 x190002 x9).f2, (rd_T66 x190002 x9).f3⟩ : S66)])) else (none))) else (none)) else (none))
end
def spec_l14Held.f (k : Nat) (a0_0 : Int) (a0_1 : Int) (l0_2 : List (S66)) (a1 : Int) (a2_0 : Int) (a2_1 : Int) (a2_2 : Int) (a2_3 : Int) : Option (Int × Int × (List (S66))) := spec_l14Held.l0 k a1 (a2_0 == 0) 0 a0_0 a0_1 l0_2 a2_0 a2_1 a2_2 a2_3 a0_0 a0_1 ([] : List (S66))
mutual
def spec_Book.j0 : Nat → Int → Int → Int → Bool → Int → Int → List (S66) → Int → Int → List (S66) → Option (Int × Int × (List (S66)) × Int)
  | 0, _, _, _, _, _, _, _, _, _, _ => none
  | k + 1, x1, x2, x3, x32, x211000, x211001, x211002, x218000, x218001, x218002 => if x32 = true then ((spec_l14Same.f k x211000 x211001 x211002).bind fun bt219 => (some (bt219.1, bt219.2.1, bt219.2.2, (-1)))) else (spec_Book.l0 k x1 x2 x3 0 x211000 x211001 x211002 x218000 x218001 x218002)
def spec_Book.l0 : Nat → Int → Int → Int → Int → Int → Int → List (S66) → Int → Int → List (S66) → Option (Int × Int × (List (S66)) × Int)
  | 0, _, _, _, _, _, _, _, _, _, _ => none
  | k + 1, x1, x2, x3, x11, x211000, x211001, x211002, x218000, x218001, x218002 => if x11 < (x211002.length : Int) then (if 0 ≤ x11 then (if ((rd_T66 x211002 x11).f0) = x1 then (some (x218000, x218001, x218002, (-1))) else (spec_Book.l0 k x1 x2 x3 (wrap64 (x11 + 1)) x211000 x211001 x211002 x218000 x218001 x218002)) else (none)) else ((spec_FreeSeats.f k x211000 x211001 x211002 x2 x3).bind fun t225 => (spec_Book.l1 k x1 x2 x3 t225 (-1) 0 x211000 x211001 x211002 x218000 x218001 x218002))
def spec_Book.l1 : Nat → Int → Int → Int → List Int → Int → Int → Int → Int → List (S66) → Int → Int → List (S66) → Option (Int × Int × (List (S66)) × Int)
  | 0, _, _, _, _, _, _, _, _, _, _, _, _ => none
  | k + 1, x1, x2, x3, x12, x13, x14, x211000, x211001, x211002, x218000, x218001, x218002 => if x14 < (x12.length : Int) then (if x13 < 0 then (if 0 ≤ x14 then (spec_Book.l1 k x1 x2 x3 x12 (rd x12 x14) (wrap64 (x14 + 1)) x211000 x211001 x211002 x218000 x218001 x218002) else (none)) else (if 0 ≤ x14 then ((spec_Hole.f k x211000 x211001 x211002 (rd x12 x14) x2 x3).bind fun t235 => ((spec_Hole.f k x211000 x211001 x211002 x13 x2 x3).bind fun t236 => (if t235 < t236 then (spec_Book.l1 k x1 x2 x3 x12 (rd x12 x14) (wrap64 (x14 + 1)) x211000 x211001 x211002 x218000 x218001 x218002) else (spec_Book.l1 k x1 x2 x3 x12 x13 (wrap64 (x14 + 1)) x211000 x211001 x211002 x218000 x218001 x218002)))) else (none))) else (if x13 < 0 then (some (x218000, x218001, x218002, (-1))) else ((spec_l14Held.f k x211000 x211001 x211002 0 x1 x13 x2 x3).bind fun bt228 => (some (bt228.1, bt228.2.1, bt228.2.2, x13))))
end
def spec_Book.f (k : Nat) (a0_0 : Int) (a0_1 : Int) (l0_2 : List (S66)) (a1 : Int) (a2 : Int) (a3 : Int) : Option (Int × Int × (List (S66)) × Int) := (spec_l14Held.f k a0_0 a0_1 l0_2 0 0 0 0 0).bind fun bt212 => ((spec_l14Asked.f k a0_0 a0_1 l0_2 a2 a3).bind fun t218 => (if t218 = true then (if a1 ≤ 0 then (spec_Book.j0 k a1 a2 a3 true a0_0 a0_1 l0_2 bt212.1 bt212.2.1 bt212.2.2) else (spec_Book.j0 k a1 a2 a3 (decide ((l0_2.length : Int) ≥ 200)) a0_0 a0_1 l0_2 bt212.1 bt212.2.1 bt212.2.2)) else (spec_Book.j0 k a1 a2 a3 true a0_0 a0_1 l0_2 bt212.1 bt212.2.1 bt212.2.2)))
def impl_between.f (a0 : Int) (a1 : Int) (a2 : Int) : Option (Bool) := if a0 ≥ a1 then (some (decide (a0 ≤ a2))) else (some false)
def impl_Train_ride.f (a0_0 : Int) (a0_1 : Int) (l0_2 : List (S66)) (a1 : Int) (a2 : Int) : Option (Bool) := if 0 ≤ a1 then (if a1 < a2 then (some (decide (a2 ≤ a0_1))) else (some false)) else (some false)
def impl_TrainOk.l4 (s p : Nat) (b : S66) : Bool := decide (b.f1 = (s : Int)) && decide (b.f2 ≤ (p : Int)) && decide ((p : Int) < b.f3)
def impl_TrainOk.l3 (b o : S66) : Bool := decide (o.f1 = b.f1) && decide (o.f2 < b.f3) && decide (b.f2 < o.f3)
def impl_TrainOk.l1 (seats pieces : Int) (l : List S66) (i : Nat) : Bool :=
  decide ((if i = 0 then 0 else (rd_T66 l ((i - 1 : Nat) : Int)).f0) < (rd_T66 l (i : Int)).f0) && decide (0 ≤ (rd_T66 l (i : Int)).f1 ∧ (rd_T66 l (i : Int)).f1 ≤ seats - 1) &&
    decide (0 ≤ (rd_T66 l (i : Int)).f2 ∧ (rd_T66 l (i : Int)).f2 < (rd_T66 l (i : Int)).f3 ∧ (rd_T66 l (i : Int)).f3 ≤ pieces) && !((l.take i).any (impl_TrainOk.l3 (rd_T66 l (i : Int))))
def impl_TrainOk.l0 (seats pieces : Int) (l : List S66) : Bool := decide (1 ≤ seats ∧ seats ≤ 60) && decide (1 ≤ pieces ∧ pieces ≤ 11) && decide (l.length ≤ 200) && (List.range l.length).all (impl_TrainOk.l1 seats pieces l)
def impl_TrainOk.f (a0_0 a0_1 : Int) (l0_2 : List S66) : Option Bool := some (impl_TrainOk.l0 a0_0 a0_1 l0_2)
def impl_cloneTrain.f (a0_0 : Int) (a0_1 : Int) (l0_2 : List (S66)) : Option (Int × Int × (List (S66))) := (some (([] : List (S66)) : List (S66))).bind fun y241 => (if y241.length + l0_2.length < 4398046511104 then (some (a0_0, a0_1, (y241 ++ l0_2))) else (none))
def slices_Index_bool_bool.l0 : Nat → List Bool → Bool → Int → Int → Option (Int)
  | 0, _, _, _, _ => none
  | k + 1, x0, x1, x7, x8 => if x8 < x7 then (if 0 ≤ x8 then (if x8 < (x0.length : Int) then (if (x1 == (rdOf false x0 x8)) = true then (some x8) else (slices_Index_bool_bool.l0 k x0 x1 x7 (wrap64 (x8 + 1)))) else (none)) else (none)) else (some (-1))
def slices_Index_bool_bool.f (k : Nat) (l0 : List Bool) (a1 : Bool) : Option (Int) := slices_Index_bool_bool.l0 k l0 a1 (l0.length : Int) 0
def slices_Contains_bool_bool.f (k : Nat) (l0 : List Bool) (a1 : Bool) : Option (Bool) := (slices_Index_bool_bool.f k l0 a1).bind fun t248 => (some (decide (t248 ≥ 0)))
def impl_Train_freeSeats.l0 (l : List S66) (on off s : Nat) : Bool := (List.range' on (off - on)).any fun p => l.any (impl_TrainOk.l4 s p)
def impl_Train_freeSeats.l1 (l : List S66) (n on off : Nat) : List Int := ((List.range n).filter fun s => !(impl_Train_freeSeats.l0 l on off s)).map fun (s : Nat) => (s : Int)
def impl_Train_freeSeats.f (a0_0 a0_1 : Int) (l0_2 : List S66) (a1 a2 : Int) : Option (List Int) :=
  if impl_TrainOk.l0 a0_0 a0_1 l0_2 = true ∧ 0 ≤ a1 ∧ a1 < a2 ∧ a2 ≤ a0_1 then some (impl_Train_freeSeats.l1 l0_2 a0_0.toNat a1.toNat a2.toNat) else none
def impl_Train_hole.l1 (l : List S66) (s : Nat) : Nat → Nat
  | 0 => 0
  | k + 1 => if l.any (impl_TrainOk.l4 s k) = true then k + 1 else impl_Train_hole.l1 l s k
def impl_Train_hole.l2 (l : List S66) (s P : Nat) : Nat → Nat
  | 0 => P
  | d + 1 => if l.any (impl_TrainOk.l4 s (P - (d + 1))) = true then P - (d + 1) else impl_Train_hole.l2 l s P d
def impl_Train_hole.f (a0_0 a0_1 : Int) (l0_2 : List S66) (a1 a2 a3 : Int) : Option Int :=
  if impl_TrainOk.l0 a0_0 a0_1 l0_2 = true ∧ (0 ≤ a1 ∧ a1 < a0_0) ∧ 0 ≤ a2 ∧ a2 ≤ a0_1 ∧ 0 ≤ a3 ∧ a3 ≤ a0_1 then
    some ((impl_Train_hole.l2 l0_2 a1.toNat a0_1.toNat (a0_1.toNat - a3.toNat) : Int) - (impl_Train_hole.l1 l0_2 a1.toNat a2.toNat : Int)) else none
def impl_Unbook.l1 (l : List S66) (id : Int) : Int := if l.findIdx (fun o => o.f0 == id) < l.length then (l.findIdx (fun o => o.f0 == id) : Int) else -1
def impl_Booking_86.l0 : Nat → List (S66) → Int → Int → Option ((List (S66)))
  | 0, _, _, _ => none
  | k + 1, x0, x2, x3 => if x2 < x3 then (if 0 ≤ x3 then (if x3 < (x0.length : Int) then (if 0 ≤ x2 then (if x2 < (x0.length : Int) then (impl_Booking_86.l0 k ((x0.set (x2 : Int).toNat (⟨(rd_T66 x0 x3).f0, (rd_T66 x0 x3).f1, (rd_T66 x0 x3).f2, (rd_T66 x0 x3).f3⟩ : S66)).set (x3 : Int).toNat (⟨(rd_T66 x0 x2).f0, (rd_T66 x0 x2).f1, (rd_T66 x0 x2).f2, (rd_T66 x0 x2).f3⟩ : S66)) (wrap64 (x2 + 1)) (wrap64 (x3 - 1))) else (none)) else (none)) else (none)) else (none)) else (some x0)
def impl_Booking_86.f (k : Nat) (l0 : List (S66)) : Option ((List (S66))) := impl_Booking_86.l0 k l0 0 (wrap64 ((l0.length : Int) - 1))
def impl_Book.l5 (l : List S66) (i : Nat) (y : S66) : List S66 := l.take i ++ y :: l.drop i
def impl_Book.l0 (h : Int → Int) : List Int → Int → Int → Int × Int
  | [], b, m => (b, m)
  | s :: t, b, m => if b < 0 ∨ h s < m then impl_Book.l0 h t s (h s) else impl_Book.l0 h t b m
def impl_Book.l1 (a b : Int) (l : List S66) (x y s : Int) : Int := (impl_Train_hole.l2 l s.toNat b.toNat (b.toNat - y.toNat) : Int) - (impl_Train_hole.l1 l s.toNat x.toNat : Int)
def impl_Book.l2 (id : Int) : List S66 → Nat
  | [] => 0
  | o :: t => if o.f0 < id then impl_Book.l2 id t + 1 else 0
def impl_Book.l3 (a b : Int) (l : List S66) (x y : Int) : Int := (impl_Book.l0 (impl_Book.l1 a b l x y) (impl_Train_freeSeats.l1 l a.toNat x.toNat y.toNat) (-1) 0).1
def impl_Book.l4 (a b : Int) (l : List S66) (id x y : Int) : Bool := decide (0 < id) && decide (impl_Unbook.l1 l id < 0) && decide (0 ≤ x ∧ x < y ∧ y ≤ b) && !decide (l.length = 200) && decide (0 ≤ impl_Book.l3 a b l x y)
def impl_Book.l6 (a b : Int) (l : List S66) (id x y : Int) : List S66 × Int :=
  if impl_Book.l4 a b l id x y = true then (impl_Book.l5 l (impl_Book.l2 id l) ⟨id, impl_Book.l3 a b l x y, x, y⟩, impl_Book.l3 a b l x y) else (l, -1)
def impl_Book.f (a0_0 a0_1 : Int) (l0_2 : List S66) (a1 a2 a3 : Int) : Option (Int × Int × List S66 × Int) :=
  if l0_2.length < 4398046511104 then some (a0_0, a0_1, if impl_TrainOk.l0 a0_0 a0_1 l0_2 = true then (impl_Book.l6 a0_0 a0_1 l0_2 a1 a2 a3).1 else l0_2, if impl_TrainOk.l0 a0_0 a0_1 l0_2 = true then (impl_Book.l6 a0_0 a0_1 l0_2 a1 a2 a3).2 else -1) else none
mutual
def laws_FnExactBook.j0 : Nat → Int → Int → Int → Int → Int → Bool → Int → Int → List (S89) → Int → Int → List (S66) → Int → Int → List (S66) → Int → Int → List (S66) → Option (Bool)
  | 0, _, _, _, _, _, _, _, _, _, _, _, _, _, _, _, _, _, _ => none
  | k + 1, x1, x2, x3, x11, x14, x52, x258000, x258001, x258002, x271000, x271001, x271002, x277000, x277001, x277002, x284000, x284001, x284002 => if x52 = true then (some false) else ((laws_toTrain.f k x258000 x258001 x258002).bind fun bt285 => ((laws_eqTrain.f k x277000 x277001 x277002 bt285.1 bt285.2.1 bt285.2.2).bind fun t290 => (if t290 = true then ((laws_markTrain.f k x277000 x277001 x277002 1).bind fun bt291 => (if bt291.1 < 0 then (laws_FnExactBook.j1 k x1 x2 x3 x11 true x258000 x258001 x258002 x271000 x271001 x271002 x284000 x284001 x284002) else ((laws_eqTrain.f k x284000 x284001 x284002 x271000 x271001 x271002).bind fun t293 => (if t293 = true then (laws_FnExactBook.j1 k x1 x2 x3 x11 (x14 != x11) x258000 x258001 x258002 x271000 x271001 x271002 x284000 x284001 x284002) else (laws_FnExactBook.j1 k x1 x2 x3 x11 true x258000 x258001 x258002 x271000 x271001 x271002 x284000 x284001 x284002))))) else (some false))))
def laws_FnExactBook.j1 : Nat → Int → Int → Int → Int → Bool → Int → Int → List (S89) → Int → Int → List (S66) → Int → Int → List (S66) → Option (Bool)
  | 0, _, _, _, _, _, _, _, _, _, _, _, _, _, _ => none
  | k + 1, x1, x2, x3, x11, x73, x258000, x258001, x258002, x271000, x271001, x271002, x284000, x284001, x284002 => if x73 = true then (some false) else ((laws_markTrain.f k x284000 x284001 x284002 1).bind fun bt294 => ((laws_heldTrain.f k x284000 x284001 bt294.2 1).bind fun t296 => (if t296 < 0 then (some false) else (if t296 = bt294.1 then ((laws_toTrain.f k x258000 x258001 x258002).bind fun bt297 => ((impl_Book.f bt297.1 bt297.2.1 bt297.2.2 x1 x2 x3).bind fun bt302 => ((laws_eqTrain.f k bt302.1 bt302.2.1 bt302.2.2.1 x271000 x271001 x271002).bind fun t309 => (if t309 = true then (laws_FnExactBook.j2 k bt294.1 (bt302.2.2.2 != x11) x284000 x284001 bt294.2) else (laws_FnExactBook.j2 k bt294.1 true x284000 x284001 bt294.2))))) else (some false)))))
def laws_FnExactBook.j2 : Nat → Int → Bool → Int → Int → List (S66) → Option (Bool)
  | 0, _, _, _, _, _ => none
  | k + 1, x16, x102, x284000, x284001, x284002 => if x102 = true then (some false) else ((laws_heldTrain.f k x284000 x284001 x284002 1).bind fun t310 => (if t310 < 0 then (some false) else (if t310 = x16 then (some true) else (some false))))
end
def laws_FnExactBook.f (k : Nat) (a0_0 : Int) (a0_1 : Int) (l0_2 : List (S89)) (a1 : Int) (a2 : Int) (a3 : Int) : Option (Bool) := (laws_szTrain.f a0_0 a0_1 l0_2 1048576).bind fun t258 => (if t258 < 0 then (some true) else ((laws_toTrain.f k a0_0 a0_1 l0_2).bind fun bt259 => ((spec_Book.f k bt259.1 bt259.2.1 bt259.2.2 a1 a2 a3).bind fun bt264 => ((laws_toTrain.f k a0_0 a0_1 l0_2).bind fun bt271 => ((impl_Book.f bt271.1 bt271.2.1 bt271.2.2 a1 a2 a3).bind fun bt277 => ((laws_eqTrain.f k bt277.1 bt277.2.1 bt277.2.2.1 bt264.1 bt264.2.1 bt264.2.2.1).bind fun t284 => (if t284 = true then (laws_FnExactBook.j0 k a1 a2 a3 bt264.2.2.2 bt277.2.2.2 (bt277.2.2.2 != bt264.2.2.2) a0_0 a0_1 l0_2 bt264.1 bt264.2.1 bt264.2.2.1 bt271.1 bt271.2.1 bt271.2.2 bt277.1 bt277.2.1 bt277.2.2.1) else (laws_FnExactBook.j0 k a1 a2 a3 bt264.2.2.2 bt277.2.2.2 true a0_0 a0_1 l0_2 bt264.1 bt264.2.1 bt264.2.2.1 bt271.1 bt271.2.1 bt271.2.2 bt277.1 bt277.2.1 bt277.2.2.1))))))))
end Go.Proofs.Ytklikbjlfaednaa.P

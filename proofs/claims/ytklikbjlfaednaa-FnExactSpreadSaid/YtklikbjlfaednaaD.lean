/- The functions of the program as plain Lean functions, without memory and machine; written by a program of the session. -/
import Derived.Test.YtklikbjlfaednaaProg
import Derived.Test.YtklikbjlfaednaaV
namespace Go.Proofs.Ytklikbjlfaednaa.P
open Go.RowKit Go.Proofs.YtklikbjlfaednaaW.PrintWords Go.Proofs.YtklikbjlfaednaaW.PrintLast Go.Proofs.YtklikbjlfaednaaW.PrintMore
set_option linter.unusedVariables false

structure S89 where
  f0 : Int
  f1 : Int
  f2 : Int
  f3 : Int
def z89 : S89 := ⟨(0 : Int), (0 : Int), (0 : Int), (0 : Int)⟩
def rd_T89 (xs : List S89) (i : Int) : S89 := xs.getD i.toNat z89
structure S66 where
  f0 : Int
  f1 : Int
  f2 : Int
  f3 : Int
def z66 : S66 := ⟨(0 : Int), (0 : Int), (0 : Int), (0 : Int)⟩
def rd_T66 (xs : List S66) (i : Int) : S66 := xs.getD i.toNat z66
def rd_L3 (xs : List (List S89)) (i : Int) : (List S89) := xs.getD i.toNat ([] : List S89)
structure S24 where
  f0 : Int
  f1 : Int
  f2 : (List S89)
def z24 : S24 := ⟨(0 : Int), (0 : Int), ([] : List S89)⟩
def rd_T24 (xs : List S24) (i : Int) : S24 := xs.getD i.toNat z24
def laws_szBookingS.f (l0 : List (S89)) (a1 : Int) : Option (Int) := if (wrap64 (a1 - (l0.length : Int))) < 0 then (some (-1)) else (some (wrap64 (a1 - (l0.length : Int))))
def laws_szTrain.f (a0_0 : Int) (a0_1 : Int) (l0_2 : List (S89)) (a1 : Int) : Option (Int) := (laws_szBookingS.f l0_2 a1).bind fun t102 => (if t102 < 0 then (some (-1)) else (some t102))
def laws_toBooking.f (a0_0 : Int) (a0_1 : Int) (a0_2 : Int) (a0_3 : Int) : Option (Int × Int × Int × Int) := some (a0_0, a0_1, a0_2, a0_3)
def laws_toBookingS.l0 : Nat → List (S89) → List (S66) → Int → Option ((List (S66)))
  | 0, _, _, _ => none
  | k + 1, x0, x3, x4 => if x4 < (x0.length : Int) then (if 0 ≤ x4 then ((laws_toBooking.f ((rd_T89 x0 x4).f0) ((rd_T89 x0 x4).f1) ((rd_T89 x0 x4).f2) ((rd_T89 x0 x4).f3)).bind fun bt110 => (if x4 < (x3.length : Int) then (laws_toBookingS.l0 k x0 (x3.set (x4 : Int).toNat (⟨bt110.1, bt110.2.1, bt110.2.2.1, bt110.2.2.2⟩ : S66)) (wrap64 (x4 + 1))) else (none))) else (none)) else (some x3)
def laws_toBookingS.f (k : Nat) (l0 : List (S89)) : Option ((List (S66))) := if 0 ≤ (l0.length : Int) then (if ((l0.length : Int) : Int).toNat ≤ 8796093022208 then (laws_toBookingS.l0 k l0 (List.replicate ((l0.length : Int) : Int).toNat z66) 0) else (none)) else (none)
def laws_toTrain.f (k : Nat) (a0_0 : Int) (a0_1 : Int) (l0_2 : List (S89)) : Option (Int × Int × (List (S66))) := (laws_toBookingS.f k l0_2).bind fun t118 => (some (a0_0, a0_1, t118))
def laws_eqBooking.f (a0_0 : Int) (a0_1 : Int) (a0_2 : Int) (a0_3 : Int) (a1_0 : Int) (a1_1 : Int) (a1_2 : Int) (a1_3 : Int) : Option (Bool) := if a0_0 = a1_0 then (if a0_1 = a1_1 then (if a0_2 = a1_2 then (if a0_3 = a1_3 then (some true) else (some false)) else (some false)) else (some false)) else (some false)
def laws_eqBookingS.l0 : Nat → List (S66) → List (S66) → Int → Option (Bool)
  | 0, _, _, _ => none
  | k + 1, x0, x1, x5 => if x5 < (x0.length : Int) then (if 0 ≤ x5 then (if x5 < (x1.length : Int) then ((laws_eqBooking.f ((rd_T66 x0 x5).f0) ((rd_T66 x0 x5).f1) ((rd_T66 x0 x5).f2) ((rd_T66 x0 x5).f3) ((rd_T66 x1 x5).f0) ((rd_T66 x1 x5).f1) ((rd_T66 x1 x5).f2) ((rd_T66 x1 x5).f3)).bind fun t125 => (if t125 = true then (laws_eqBookingS.l0 k x0 x1 (wrap64 (x5 + 1))) else (some false))) else (none)) else (none)) else (some true)
def laws_eqBookingS.f (k : Nat) (l0 : List (S66)) (l1 : List (S66)) : Option (Bool) := if (l0.length : Int) = (l1.length : Int) then (laws_eqBookingS.l0 k l0 l1 0) else (some false)
def laws_eqTrain.f (k : Nat) (a0_0 : Int) (a0_1 : Int) (l0_2 : List (S66)) (a1_0 : Int) (a1_1 : Int) (l1_2 : List (S66)) : Option (Bool) := if a0_0 = a1_0 then (if a0_1 = a1_1 then ((laws_eqBookingS.f k l0_2 l1_2).bind fun t128 => (if t128 = true then (some true) else (some false))) else (some false)) else (some false)
def laws_eqIntS.l0 : Nat → List Int → List Int → Int → Option (Bool)
  | 0, _, _, _ => none
  | k + 1, x0, x1, x5 => if x5 < (x0.length : Int) then (if 0 ≤ x5 then (if x5 < (x1.length : Int) then (if (rd x0 x5) = (rd x1 x5) then (laws_eqIntS.l0 k x0 x1 (wrap64 (x5 + 1))) else (some false)) else (none)) else (none)) else (some true)
def laws_eqIntS.f (k : Nat) (l0 : List Int) (l1 : List Int) : Option (Bool) := if (l0.length : Int) = (l1.length : Int) then (laws_eqIntS.l0 k l0 l1 0) else (some false)
def laws_markBookingS.l0 : Nat → List (S66) → Int → Int → Option (Int × (List (S66)))
  | 0, _, _, _ => none
  | k + 1, x0, x1, x5 => if x5 < (x0.length : Int) then (if 0 ≤ x5 then ((some (x0.set (x5 : Int).toNat (⟨x1, (rd_T66 x0 x5).f1, (rd_T66 x0 x5).f2, (rd_T66 x0 x5).f3⟩ : S66) : List (S66))).bind fun y131 => ((some (y131.set (x5 : Int).toNat (⟨(rd_T66 y131 x5).f0, wrap64 (x1 + 1), (rd_T66 y131 x5).f2, (rd_T66 y131 x5).f3⟩ : S66) : List (S66))).bind fun y132 => ((some (y132.set (x5 : Int).toNat (⟨(rd_T66 y132 x5).f0, (rd_T66 y132 x5).f1, wrap64 ((wrap64 (x1 + 1)) + 1), (rd_T66 y132 x5).f3⟩ : S66) : List (S66))).bind fun y133 => (laws_markBookingS.l0 k (y133.set (x5 : Int).toNat (⟨(rd_T66 y133 x5).f0, (rd_T66 y133 x5).f1, (rd_T66 y133 x5).f2, wrap64 ((wrap64 ((wrap64 (x1 + 1)) + 1)) + 1)⟩ : S66)) (wrap64 ((wrap64 ((wrap64 ((wrap64 (x1 + 1)) + 1)) + 1)) + 1)) (wrap64 (x5 + 1)))))) else (none)) else (some (x1, x0))
def laws_markBookingS.f (k : Nat) (l0 : List (S66)) (a1 : Int) : Option (Int × (List (S66))) := laws_markBookingS.l0 k l0 a1 0
def laws_markTrain.f (k : Nat) (a0_0 : Int) (a0_1 : Int) (l0_2 : List (S66)) (a1 : Int) : Option (Int × (List (S66))) := (laws_markBookingS.f k l0_2 a1).bind fun bt136 => (some (bt136.1, bt136.2))
def laws_markIntS.l0 : Nat → List Int → Int → Int → Option (Int × List Int)
  | 0, _, _, _ => none
  | k + 1, x0, x1, x5 => if x5 < (x0.length : Int) then (if 0 ≤ x5 then (laws_markIntS.l0 k (x0.set (x5 : Int).toNat x1) (wrap64 (x1 + 1)) (wrap64 (x5 + 1))) else (none)) else (some (x1, x0))
def laws_markIntS.f (k : Nat) (l0 : List Int) (a1 : Int) : Option (Int × List Int) := laws_markIntS.l0 k l0 a1 0
def laws_heldIntS.l0 : Nat → List Int → Int → Int → Option (Int)
  | 0, _, _, _ => none
  | k + 1, x0, x1, x5 => if x5 < (x0.length : Int) then (if 0 ≤ x5 then (if (rd x0 x5) = x1 then (laws_heldIntS.l0 k x0 (wrap64 (x1 + 1)) (wrap64 (x5 + 1))) else (some (-1))) else (none)) else (some x1)
def laws_heldIntS.f (k : Nat) (l0 : List Int) (a1 : Int) : Option (Int) := laws_heldIntS.l0 k l0 a1 0
def spec_l01In.f (a0 : Int) (a1 : Int) (a2 : Int) : Option (Bool) := if a1 ≤ a0 then (some (decide (a0 ≤ a2))) else (some false)
mutual
def spec_TrainOk.j0 : Nat → Bool → Int → Int → List (S66) → Option (Bool)
  | 0, _, _, _, _ => none
  | k + 1, x22, x141000, x141001, x141002 => if x22 = true then (some false) else (spec_TrainOk.l0 k 0 x141000 x141001 x141002)
def spec_TrainOk.l0 : Nat → Int → Int → Int → List (S66) → Option (Bool)
  | 0, _, _, _, _ => none
  | k + 1, x3, x141000, x141001, x141002 => if x3 < (x141002.length : Int) then (if 0 ≤ x3 then (if ((rd_T66 x141002 x3).f0) ≤ 0 then (spec_TrainOk.j2 k x3 true x141000 x141001 x141002 ((rd_T66 x141002 x3).f0) ((rd_T66 x141002 x3).f1) ((rd_T66 x141002 x3).f2) ((rd_T66 x141002 x3).f3)) else (if x3 > 0 then (if 0 ≤ (wrap64 (x3 - 1)) then (if (wrap64 (x3 - 1)) < (x141002.length : Int) then (if ((rd_T66 x141002 (wrap64 (x3 - 1))).f0) ≥ ((rd_T66 x141002 x3).f0) then (spec_TrainOk.j2 k x3 true x141000 x141001 x141002 ((rd_T66 x141002 x3).f0) ((rd_T66 x141002 x3).f1) ((rd_T66 x141002 x3).f2) ((rd_T66 x141002 x3).f3)) else ((spec_l01In.f ((rd_T66 x141002 x3).f1) 0 (wrap64 (x141000 - 1))).bind fun t146 => (if t146 = true then ((spec_l01In.f ((rd_T66 x141002 x3).f3) 1 x141001).bind fun t147 => (if t147 = true then ((spec_l01In.f ((rd_T66 x141002 x3).f2) 0 (wrap64 (((rd_T66 x141002 x3).f3) - 1))).bind fun t148 => (spec_TrainOk.j2 k x3 (!t148) x141000 x141001 x141002 ((rd_T66 x141002 x3).f0) ((rd_T66 x141002 x3).f1) ((rd_T66 x141002 x3).f2) ((rd_T66 x141002 x3).f3))) else (spec_TrainOk.j2 k x3 true x141000 x141001 x141002 ((rd_T66 x141002 x3).f0) ((rd_T66 x141002 x3).f1) ((rd_T66 x141002 x3).f2) ((rd_T66 x141002 x3).f3)))) else (spec_TrainOk.j2 k x3 true x141000 x141001 x141002 ((rd_T66 x141002 x3).f0) ((rd_T66 x141002 x3).f1) ((rd_T66 x141002 x3).f2) ((rd_T66 x141002 x3).f3))))) else (none)) else (none)) else ((spec_l01In.f ((rd_T66 x141002 x3).f1) 0 (wrap64 (x141000 - 1))).bind fun t149 => (if t149 = true then ((spec_l01In.f ((rd_T66 x141002 x3).f3) 1 x141001).bind fun t150 => (if t150 = true then ((spec_l01In.f ((rd_T66 x141002 x3).f2) 0 (wrap64 (((rd_T66 x141002 x3).f3) - 1))).bind fun t151 => (spec_TrainOk.j2 k x3 (!t151) x141000 x141001 x141002 ((rd_T66 x141002 x3).f0) ((rd_T66 x141002 x3).f1) ((rd_T66 x141002 x3).f2) ((rd_T66 x141002 x3).f3))) else (spec_TrainOk.j2 k x3 true x141000 x141001 x141002 ((rd_T66 x141002 x3).f0) ((rd_T66 x141002 x3).f1) ((rd_T66 x141002 x3).f2) ((rd_T66 x141002 x3).f3)))) else (spec_TrainOk.j2 k x3 true x141000 x141001 x141002 ((rd_T66 x141002 x3).f0) ((rd_T66 x141002 x3).f1) ((rd_T66 x141002 x3).f2) ((rd_T66 x141002 x3).f3)))))) else (none)) else (some true)
def spec_TrainOk.j2 : Nat → Int → Bool → Int → Int → List (S66) → Int → Int → Int → Int → Option (Bool)
  | 0, _, _, _, _, _, _, _, _, _ => none
  | k + 1, x3, x79, x141000, x141001, x141002, x145000, x145001, x145002, x145003 => if x79 = true then (some false) else (spec_TrainOk.l1 k x3 0 x141000 x141001 x141002 x145000 x145001 x145002 x145003)
def spec_TrainOk.l1 : Nat → Int → Int → Int → Int → List (S66) → Int → Int → Int → Int → Option (Bool)
  | 0, _, _, _, _, _, _, _, _, _ => none
  | k + 1, x3, x5, x141000, x141001, x141002, x145000, x145001, x145002, x145003 => if x5 < x3 then (if 0 ≤ x5 then (if x5 < (x141002.length : Int) then (if ((rd_T66 x141002 x5).f1) = x145001 then (if ((rd_T66 x141002 x5).f2) < x145003 then (if x145002 < ((rd_T66 x141002 x5).f3) then (some false) else (spec_TrainOk.l1 k x3 (wrap64 (x5 + 1)) x141000 x141001 x141002 x145000 x145001 x145002 x145003)) else (spec_TrainOk.l1 k x3 (wrap64 (x5 + 1)) x141000 x141001 x141002 x145000 x145001 x145002 x145003)) else (spec_TrainOk.l1 k x3 (wrap64 (x5 + 1)) x141000 x141001 x141002 x145000 x145001 x145002 x145003)) else (none)) else (none)) else (spec_TrainOk.l0 k (wrap64 (x3 + 1)) x141000 x141001 x141002)
end
def spec_TrainOk.f (k : Nat) (a0_0 : Int) (a0_1 : Int) (l0_2 : List (S66)) : Option (Bool) := (spec_l01In.f a0_0 1 60).bind fun t141 => (if t141 = true then ((spec_l01In.f a0_1 1 11).bind fun t142 => (if t142 = true then (spec_TrainOk.j0 k (decide ((l0_2.length : Int) > 200)) a0_0 a0_1 l0_2) else (spec_TrainOk.j0 k true a0_0 a0_1 l0_2))) else (spec_TrainOk.j0 k true a0_0 a0_1 l0_2))
def spec_l14Asked.f (k : Nat) (a0_0 : Int) (a0_1 : Int) (l0_2 : List (S66)) (a1 : Int) (a2 : Int) : Option (Bool) := (spec_TrainOk.f k a0_0 a0_1 l0_2).bind fun t155 => (if t155 = true then ((spec_l01In.f a2 1 a0_1).bind fun t156 => (if t156 = true then ((spec_l01In.f a1 0 (wrap64 (a2 - 1))).bind fun t157 => (some t157)) else (some false))) else (some false))
def spec_l14Free.l0 : Nat → Int → Int → Int → Int → Int → List (S66) → Option (Bool)
  | 0, _, _, _, _, _, _ => none
  | k + 1, x1, x2, x7, x159000, x159001, x159002 => if x7 < (x159002.length : Int) then (if 0 ≤ x7 then (if ((rd_T66 x159002 x7).f1) = x1 then ((spec_l01In.f x2 ((rd_T66 x159002 x7).f2) (wrap64 (((rd_T66 x159002 x7).f3) - 1))).bind fun t162 => (if t162 = true then (some false) else (spec_l14Free.l0 k x1 x2 (wrap64 (x7 + 1)) x159000 x159001 x159002))) else (spec_l14Free.l0 k x1 x2 (wrap64 (x7 + 1)) x159000 x159001 x159002)) else (none)) else (some true)
def spec_l14Free.f (k : Nat) (a0_0 : Int) (a0_1 : Int) (l0_2 : List (S66)) (a1 : Int) (a2 : Int) : Option (Bool) := spec_l14Free.l0 k a1 a2 0 a0_0 a0_1 l0_2
mutual
def spec_Spread.l0 : Nat → Int → List Int → Int → Int → Int → List (S66) → Option (List Int)
  | 0, _, _, _, _, _, _ => none
  | k + 1, x2, x7, x8, x164000, x164001, x164002 => if x8 < x2 then (spec_Spread.l1 k x2 x7 x8 (-1) 0 0 x164000 x164001 x164002) else (some x7)
def spec_Spread.l1 : Nat → Int → List Int → Int → Int → Int → Int → Int → Int → List (S66) → Option (List Int)
  | 0, _, _, _, _, _, _, _, _, _ => none
  | k + 1, x2, x7, x8, x9, x10, x11, x164000, x164001, x164002 => if x11 < x164000 then (spec_Spread.l2 k x2 x7 x8 x9 x10 x11 0 x164000 x164001 x164002) else (if x9 < 0 then (some ([] : List Int)) else (spec_Spread.l3 k x2 x7 x8 x9 x10 0 x164000 x164001 x164002))
def spec_Spread.l2 : Nat → Int → List Int → Int → Int → Int → Int → Int → Int → Int → List (S66) → Option (List Int)
  | 0, _, _, _, _, _, _, _, _, _, _ => none
  | k + 1, x2, x7, x8, x9, x10, x11, x12, x164000, x164001, x164002 => if (wrap64 (x8 + x12)) < x2 then ((spec_l14Free.f k x164000 x164001 x164002 x11 (wrap64 (x8 + x12))).bind fun t168 => (if t168 = true then (spec_Spread.l2 k x2 x7 x8 x9 x10 x11 (wrap64 (x12 + 1)) x164000 x164001 x164002) else (if x12 > x10 then (spec_Spread.l1 k x2 x7 x8 x11 x12 (wrap64 (x11 + 1)) x164000 x164001 x164002) else (spec_Spread.l1 k x2 x7 x8 x9 x10 (wrap64 (x11 + 1)) x164000 x164001 x164002)))) else (if x12 > x10 then (spec_Spread.l1 k x2 x7 x8 x11 x12 (wrap64 (x11 + 1)) x164000 x164001 x164002) else (spec_Spread.l1 k x2 x7 x8 x9 x10 (wrap64 (x11 + 1)) x164000 x164001 x164002))
def spec_Spread.l3 : Nat → Int → List Int → Int → Int → Int → Int → Int → Int → List (S66) → Option (List Int)
  | 0, _, _, _, _, _, _, _, _, _ => none
  | k + 1, x2, x7, x8, x9, x10, x13, x164000, x164001, x164002 => if x13 < x10 then (if x7.length < 17592186044416 then (spec_Spread.l3 k x2 (x7 ++ [x9]) x8 x9 x10 (wrap64 (x13 + 1)) x164000 x164001 x164002) else (none)) else (spec_Spread.l0 k x2 x7 (wrap64 (x8 + x10)) x164000 x164001 x164002)
end
def spec_Spread.f (k : Nat) (a0_0 : Int) (a0_1 : Int) (l0_2 : List (S66)) (a1 : Int) (a2 : Int) : Option (List Int) := (spec_l14Asked.f k a0_0 a0_1 l0_2 a1 a2).bind fun t164 => (if t164 = true then (spec_Spread.l0 k a2 (([] : List Int)) a1 a0_0 a0_1 l0_2) else (some ([] : List Int)))
def impl_between.f (a0 : Int) (a1 : Int) (a2 : Int) : Option (Bool) := if a0 ≥ a1 then (some (decide (a0 ≤ a2))) else (some false)
def impl_Train_ride.f (a0_0 : Int) (a0_1 : Int) (l0_2 : List (S66)) (a1 : Int) (a2 : Int) : Option (Bool) := if 0 ≤ a1 then (if a1 < a2 then (some (decide (a2 ≤ a0_1))) else (some false)) else (some false)
def impl_TrainOk.l4 (s p : Nat) (b : S66) : Bool := decide (b.f1 = (s : Int)) && decide (b.f2 ≤ (p : Int)) && decide ((p : Int) < b.f3)
def impl_TrainOk.l3 (b o : S66) : Bool := decide (o.f1 = b.f1) && decide (o.f2 < b.f3) && decide (b.f2 < o.f3)
def impl_TrainOk.l1 (seats pieces : Int) (l : List S66) (i : Nat) : Bool :=
  decide ((if i = 0 then 0 else (rd_T66 l ((i - 1 : Nat) : Int)).f0) < (rd_T66 l (i : Int)).f0) && decide (0 ≤ (rd_T66 l (i : Int)).f1 ∧ (rd_T66 l (i : Int)).f1 ≤ seats - 1) &&
    decide (0 ≤ (rd_T66 l (i : Int)).f2 ∧ (rd_T66 l (i : Int)).f2 < (rd_T66 l (i : Int)).f3 ∧ (rd_T66 l (i : Int)).f3 ≤ pieces) && !((l.take i).any (impl_TrainOk.l3 (rd_T66 l (i : Int))))
def impl_TrainOk.l0 (seats pieces : Int) (l : List S66) : Bool := decide (1 ≤ seats ∧ seats ≤ 60) && decide (1 ≤ pieces ∧ pieces ≤ 11) && decide (l.length ≤ 200) && (List.range l.length).all (impl_TrainOk.l1 seats pieces l)
def impl_TrainOk.f (a0_0 a0_1 : Int) (l0_2 : List S66) : Option Bool := some (impl_TrainOk.l0 a0_0 a0_1 l0_2)
def impl_Spread.l0 (l : List S66) (s : Nat) : Nat → Nat → Nat
  | 0, _ => 0
  | d + 1, p => if l.any (impl_TrainOk.l4 s p) = true then 0 else impl_Spread.l0 l s d (p + 1) + 1
def impl_Spread.l1 (l : List S66) (p off : Nat) : Nat → Nat × Nat
  | 0 => (0, 0)
  | n + 1 => if (impl_Spread.l1 l p off n).2 < impl_Spread.l0 l n (off - p) p then (n, impl_Spread.l0 l n (off - p) p) else impl_Spread.l1 l p off n
def impl_Spread.l2 (l : List S66) (n off : Nat) : Nat → Nat → List Int → List Int
  | 0, _, acc => acc
  | k + 1, p, acc => if p < off then (if (impl_Spread.l1 l p off n).2 = 0 then [] else impl_Spread.l2 l n off k (p + (impl_Spread.l1 l p off n).2) (acc ++ List.replicate (impl_Spread.l1 l p off n).2 ((impl_Spread.l1 l p off n).1 : Int))) else acc
def impl_Spread.f (a0_0 a0_1 : Int) (l0_2 : List S66) (a1 a2 : Int) : Option (List Int) :=
  some (if impl_TrainOk.l0 a0_0 a0_1 l0_2 = true ∧ (0 ≤ a1 ∧ a1 < a2 ∧ a2 ≤ a0_1) then impl_Spread.l2 l0_2 a0_0.toNat a2.toNat (a2.toNat - a1.toNat) a1.toNat [] else [])
def laws_FnExactSpread.j0 : Nat → Int → Int → List Int → List Int → Bool → Int → Int → List (S89) → Option (Bool)
  | 0, _, _, _, _, _, _, _, _ => none
  | k + 1, x1, x2, x8, x10, x50, x174000, x174001, x174002 => if x50 = true then (some false) else ((laws_markIntS.f k x10 1).bind fun bt202 => ((laws_heldIntS.f k bt202.2 1).bind fun t204 => (if t204 < 0 then (some false) else (if t204 = bt202.1 then ((laws_toTrain.f k x174000 x174001 x174002).bind fun bt205 => ((impl_Spread.f bt205.1 bt205.2.1 bt205.2.2 x1 x2).bind fun t210 => ((laws_eqIntS.f k t210 x8).bind fun t213 => (if t213 = true then ((laws_heldIntS.f k bt202.2 1).bind fun t214 => (if t214 < 0 then (some false) else (if t214 = bt202.1 then (some true) else (some false)))) else (some false))))) else (some false)))))
def laws_FnExactSpread.f (k : Nat) (a0_0 : Int) (a0_1 : Int) (l0_2 : List (S89)) (a1 : Int) (a2 : Int) : Option (Bool) := (laws_szTrain.f a0_0 a0_1 l0_2 1048576).bind fun t174 => (if t174 < 0 then (some true) else ((laws_toTrain.f k a0_0 a0_1 l0_2).bind fun bt175 => ((spec_Spread.f k bt175.1 bt175.2.1 bt175.2.2 a1 a2).bind fun t180 => ((laws_toTrain.f k a0_0 a0_1 l0_2).bind fun bt183 => ((impl_Spread.f bt183.1 bt183.2.1 bt183.2.2 a1 a2).bind fun t189 => ((laws_eqIntS.f k t189 t180).bind fun t192 => (if t192 = true then ((laws_toTrain.f k a0_0 a0_1 l0_2).bind fun bt193 => ((laws_eqTrain.f k bt183.1 bt183.2.1 bt183.2.2 bt193.1 bt193.2.1 bt193.2.2).bind fun t198 => (if t198 = true then ((laws_markTrain.f k bt183.1 bt183.2.1 bt183.2.2 1).bind fun bt199 => (if bt199.1 < 0 then (laws_FnExactSpread.j0 k a1 a2 t180 t189 true a0_0 a0_1 l0_2) else ((laws_eqIntS.f k t189 t180).bind fun t201 => (laws_FnExactSpread.j0 k a1 a2 t180 t189 (!t201) a0_0 a0_1 l0_2)))) else (some false)))) else (some false))))))))
end Go.Proofs.Ytklikbjlfaednaa.P

/- The functions of the program as plain Lean functions, without memory and machine; written by a program of the session. -/
import Derived.Test.YtklikbjlfaednaaProg
import Derived.Test.YtklikbjlfaednaaV
namespace Go.Proofs.Ytklikbjlfaednaa.P
open Go.RowKit Go.Proofs.YtklikbjlfaednaaW.PrintWords Go.Proofs.YtklikbjlfaednaaW.PrintLast Go.Proofs.YtklikbjlfaednaaW.PrintMore
set_option linter.unusedVariables false

structure S89 where
  f0 : Int
  f1 : Int
  f2 : Int
  f3 : Int
def z89 : S89 := ⟨(0 : Int), (0 : Int), (0 : Int), (0 : Int)⟩
def rd_T89 (xs : List S89) (i : Int) : S89 := xs.getD i.toNat z89
structure S66 where
  f0 : Int
  f1 : Int
  f2 : Int
  f3 : Int
def z66 : S66 := ⟨(0 : Int), (0 : Int), (0 : Int), (0 : Int)⟩
def rd_T66 (xs : List S66) (i : Int) : S66 := xs.getD i.toNat z66
def rd_L3 (xs : List (List S89)) (i : Int) : (List S89) := xs.getD i.toNat ([] : List S89)
structure S24 where
  f0 : Int
  f1 : Int
  f2 : (List S89)
def z24 : S24 := ⟨(0 : Int), (0 : Int), ([] : List S89)⟩
def rd_T24 (xs : List S24) (i : Int) : S24 := xs.getD i.toNat z24
def laws_szBookingS.f (l0 : List (S89)) (a1 : Int) : Option (Int) := if (wrap64 (a1 - (l0.length : Int))) < 0 then (some (-1)) else (some (wrap64 (a1 - (l0.length : Int))))
def laws_szTrain.f (a0_0 : Int) (a0_1 : Int) (l0_2 : List (S89)) (a1 : Int) : Option (Int) := (laws_szBookingS.f l0_2 a1).bind fun t102 => (if t102 < 0 then (some (-1)) else (some t102))
def laws_toBooking.f (a0_0 : Int) (a0_1 : Int) (a0_2 : Int) (a0_3 : Int) : Option (Int × Int × Int × Int) := some (a0_0, a0_1, a0_2, a0_3)
def laws_toBookingS.l0 : Nat → List (S89) → List (S66) → Int → Option ((List (S66)))
  | 0, _, _, _ => none
  | k + 1, x0, x3, x4 => if x4 < (x0.length : Int) then (if 0 ≤ x4 then ((laws_toBooking.f ((rd_T89 x0 x4).f0) ((rd_T89 x0 x4).f1) ((rd_T89 x0 x4).f2) ((rd_T89 x0 x4).f3)).bind fun bt110 => (if x4 < (x3.length : Int) then (laws_toBookingS.l0 k x0 (x3.set (x4 : Int).toNat (⟨bt110.1, bt110.2.1, bt110.2.2.1, bt110.2.2.2⟩ : S66)) (wrap64 (x4 + 1))) else (none))) else (none)) else (some x3)
def laws_toBookingS.f (k : Nat) (l0 : List (S89)) : Option ((List (S66))) := if 0 ≤ (l0.length : Int) then (if ((l0.length : Int) : Int).toNat ≤ 8796093022208 then (laws_toBookingS.l0 k l0 (List.replicate ((l0.length : Int) : Int).toNat z66) 0) else (none)) else (none)
def laws_toTrain.f (k : Nat) (a0_0 : Int) (a0_1 : Int) (l0_2 : List (S89)) : Option (Int × Int × (List (S66))) := (laws_toBookingS.f k l0_2).bind fun t118 => (some (a0_0, a0_1, t118))
def laws_eqBooking.f (a0_0 : Int) (a0_1 : Int) (a0_2 : Int) (a0_3 : Int) (a1_0 : Int) (a1_1 : Int) (a1_2 : Int) (a1_3 : Int) : Option (Bool) := if a0_0 = a1_0 then (if a0_1 = a1_1 then (if a0_2 = a1_2 then (if a0_3 = a1_3 then (some true) else (some false)) else (some false)) else (some false)) else (some false)
def laws_eqBookingS.l0 : Nat → List (S66) → List (S66) → Int → Option (Bool)
  | 0, _, _, _ => none
  | k + 1, x0, x1, x5 => if x5 < (x0.length : Int) then (if 0 ≤ x5 then (if x5 < (x1.length : Int) then ((laws_eqBooking.f ((rd_T66 x0 x5).f0) ((rd_T66 x0 x5).f1) ((rd_T66 x0 x5).f2) ((rd_T66 x0 x5).f3) ((rd_T66 x1 x5).f0) ((rd_T66 x1 x5).f1) ((rd_T66 x1 x5).f2) ((rd_T66 x1 x5).f3)).bind fun t125 => (if t125 = true then (laws_eqBookingS.l0 k x0 x1 (wrap64 (x5 + 1))) else (some false))) else (none)) else (none)) else (some true)
def laws_eqBookingS.f (k : Nat) (l0 : List (S66)) (l1 : List (S66)) : Option (Bool) := if (l0.length : Int) = (l1.length : Int) then (laws_eqBookingS.l0 k l0 l1 0) else (some false)
def laws_eqTrain.f (k : Nat) (a0_0 : Int) (a0_1 : Int) (l0_2 : List (S66)) (a1_0 : Int) (a1_1 : Int) (l1_2 : List (S66)) : Option (Bool) := if a0_0 = a1_0 then (if a0_1 = a1_1 then ((laws_eqBookingS.f k l0_2 l1_2).bind fun t128 => (if t128 = true then (some true) else (some false))) else (some false)) else (some false)
def laws_markBookingS.l0 : Nat → List (S66) → Int → Int → Option (Int × (List (S66)))
  | 0, _, _, _ => none
  | k + 1, x0, x1, x5 => if x5 < (x0.length : Int) then (if 0 ≤ x5 then ((some (x0.set (x5 : Int).toNat (⟨x1, (rd_T66 x0 x5).f1, (rd_T66 x0 x5).f2, (rd_T66 x0 x5).f3⟩ : S66) : List (S66))).bind fun y129 => ((some (y129.set (x5 : Int).toNat (⟨(rd_T66 y129 x5).f0, wrap64 (x1 + 1), (rd_T66 y129 x5).f2, (rd_T66 y129 x5).f3⟩ : S66) : List (S66))).bind fun y130 => ((some (y130.set (x5 : Int).toNat (⟨(rd_T66 y130 x5).f0, (rd_T66 y130 x5).f1, wrap64 ((wrap64 (x1 + 1)) + 1), (rd_T66 y130 x5).f3⟩ : S66) : List (S66))).bind fun y131 => (laws_markBookingS.l0 k (y131.set (x5 : Int).toNat (⟨(rd_T66 y131 x5).f0, (rd_T66 y131 x5).f1, (rd_T66 y131 x5).f2, wrap64 ((wrap64 ((wrap64 (x1 + 1)) + 1)) + 1)⟩ : S66)) (wrap64 ((wrap64 ((wrap64 ((wrap64 (x1 + 1)) + 1)) + 1)) + 1)) (wrap64 (x5 + 1)))))) else (none)) else (some (x1, x0))
def laws_markBookingS.f (k : Nat) (l0 : List (S66)) (a1 : Int) : Option (Int × (List (S66))) := laws_markBookingS.l0 k l0 a1 0
def laws_markTrain.f (k : Nat) (a0_0 : Int) (a0_1 : Int) (l0_2 : List (S66)) (a1 : Int) : Option (Int × (List (S66))) := (laws_markBookingS.f k l0_2 a1).bind fun bt134 => (some (bt134.1, bt134.2))
def spec_l01In.f (a0 : Int) (a1 : Int) (a2 : Int) : Option (Bool) := if a1 ≤ a0 then (some (decide (a0 ≤ a2))) else (some false)
mutual
def spec_TrainOk.j0 : Nat → Bool → Int → Int → List (S66) → Option (Bool)
  | 0, _, _, _, _ => none
  | k + 1, x22, x137000, x137001, x137002 => if x22 = true then (some false) else (spec_TrainOk.l0 k 0 x137000 x137001 x137002)
def spec_TrainOk.l0 : Nat → Int → Int → Int → List (S66) → Option (Bool)
  | 0, _, _, _, _ => none
  | k + 1, x3, x137000, x137001, x137002 => if x3 < (x137002.length : Int) then (if 0 ≤ x3 then (if ((rd_T66 x137002 x3).f0) ≤ 0 then (spec_TrainOk.j2 k x3 true x137000 x137001 x137002 ((rd_T66 x137002 x3).f0) ((rd_T66 x137002 x3).f1) ((rd_T66 x137002 x3).f2) ((rd_T66 x137002 x3).f3)) else (if x3 > 0 then (if 0 ≤ (wrap64 (x3 - 1)) then (if (wrap64 (x3 - 1)) < (x137002.length : Int) then (if ((rd_T66 x137002 (wrap64 (x3 - 1))).f0) ≥ ((rd_T66 x137002 x3).f0) then (spec_TrainOk.j2 k x3 true x137000 x137001 x137002 ((rd_T66 x137002 x3).f0) ((rd_T66 x137002 x3).f1) ((rd_T66 x137002 x3).f2) ((rd_T66 x137002 x3).f3)) else ((spec_l01In.f ((rd_T66 x137002 x3).f1) 0 (wrap64 (x137000 - 1))).bind fun t142 => (if t142 = true then ((spec_l01In.f ((rd_T66 x137002 x3).f3) 1 x137001).bind fun t143 => (if t143 = true then ((spec_l01In.f ((rd_T66 x137002 x3).f2) 0 (wrap64 (((rd_T66 x137002 x3).f3) - 1))).bind fun t144 => (spec_TrainOk.j2 k x3 (!t144) x137000 x137001 x137002 ((rd_T66 x137002 x3).f0) ((rd_T66 x137002 x3).f1) ((rd_T66 x137002 x3).f2) ((rd_T66 x137002 x3).f3))) else (spec_TrainOk.j2 k x3 true x137000 x137001 x137002 ((rd_T66 x137002 x3).f0) ((rd_T66 x137002 x3).f1) ((rd_T66 x137002 x3).f2) ((rd_T66 x137002 x3).f3)))) else (spec_TrainOk.j2 k x3 true x137000 x137001 x137002 ((rd_T66 x137002 x3).f0) ((rd_T66 x137002 x3).f1) ((rd_T66 x137002 x3).f2) ((rd_T66 x137002 x3).f3))))) else (none)) else (none)) else ((spec_l01In.f ((rd_T66 x137002 x3).f1) 0 (wrap64 (x137000 - 1))).bind fun t145 => (if t145 = true then ((spec_l01In.f ((rd_T66 x137002 x3).f3) 1 x137001).bind fun t146 => (if t146 = true then ((spec_l01In.f ((rd_T66 x137002 x3).f2) 0 (wrap64 (((rd_T66 x137002 x3).f3) - 1))).bind fun t147 => (spec_TrainOk.j2 k x3 (!t147) x137000 x137001 x137002 ((rd_T66 x137002 x3).f0) ((rd_T66 x137002 x3).f1) ((rd_T66 x137002 x3).f2) ((rd_T66 x137002 x3).f3))) else (spec_TrainOk.j2 k x3 true x137000 x137001 x137002 ((rd_T66 x137002 x3).f0) ((rd_T66 x137002 x3).f1) ((rd_T66 x137002 x3).f2) ((rd_T66 x137002 x3).f3)))) else (spec_TrainOk.j2 k x3 true x137000 x137001 x137002 ((rd_T66 x137002 x3).f0) ((rd_T66 x137002 x3).f1) ((rd_T66 x137002 x3).f2) ((rd_T66 x137002 x3).f3)))))) else (none)) else (some true)
def spec_TrainOk.j2 : Nat → Int → Bool → Int → Int → List (S66) → Int → Int → Int → Int → Option (Bool)
  | 0, _, _, _, _, _, _, _, _, _ => none
  | k + 1, x3, x79, x137000, x137001, x137002, x141000, x141001, x141002, x141003 => if x79 = true then (some false) else (spec_TrainOk.l1 k x3 0 x137000 x137001 x137002 x141000 x141001 x141002 x141003)
def spec_TrainOk.l1 : Nat → Int → Int → Int → Int → List (S66) → Int → Int → Int → Int → Option (Bool)
  | 0, _, _, _, _, _, _, _, _, _ => none
  | k + 1, x3, x5, x137000, x137001, x137002, x141000, x141001, x141002, x141003 => if x5 < x3 then (if 0 ≤ x5 then (if x5 < (x137002.length : Int) then (if ((rd_T66 x137002 x5).f1) = x141001 then (if ((rd_T66 x137002 x5).f2) < x141003 then (if x141002 < ((rd_T66 x137002 x5).f3) then (some false) else (spec_TrainOk.l1 k x3 (wrap64 (x5 + 1)) x137000 x137001 x137002 x141000 x141001 x141002 x141003)) else (spec_TrainOk.l1 k x3 (wrap64 (x5 + 1)) x137000 x137001 x137002 x141000 x141001 x141002 x141003)) else (spec_TrainOk.l1 k x3 (wrap64 (x5 + 1)) x137000 x137001 x137002 x141000 x141001 x141002 x141003)) else (none)) else (none)) else (spec_TrainOk.l0 k (wrap64 (x3 + 1)) x137000 x137001 x137002)
end
def spec_TrainOk.f (k : Nat) (a0_0 : Int) (a0_1 : Int) (l0_2 : List (S66)) : Option (Bool) := (spec_l01In.f a0_0 1 60).bind fun t137 => (if t137 = true then ((spec_l01In.f a0_1 1 11).bind fun t138 => (if t138 = true then (spec_TrainOk.j0 k (decide ((l0_2.length : Int) > 200)) a0_0 a0_1 l0_2) else (spec_TrainOk.j0 k true a0_0 a0_1 l0_2))) else (spec_TrainOk.j0 k true a0_0 a0_1 l0_2))
def spec_l14Same.l0 : Nat → Int → Int → Int → List (S66) → Int → Int → List (S66) → Option (Int × Int × (List (S66)))
  | 0, _, _, _, _, _, _, _ => none
  | k + 1, x4, x151000, x151001, x151002, x153000, x153001, x153002 => if x4 < (x151002.length : Int) then (if 0 ≤ x4 then (if x153002.length < 4398046511104 then (spec_l14Same.l0 k (wrap64 (x4 + 1)) x151000 x151001 x151002 x153000 x153001 (x153002 ++ [(⟨(rd_T66 x151002 x4).f0, (rd_T66 x151002 x4).f1, (rd_T66 x151002 x4).f2, (rd_T66 x151002 x4).f3⟩ : S66)])) else (none)) else (none)) else (some (x153000, x153001, x153002))
def spec_l14Same.f (k : Nat) (a0_0 : Int) (a0_1 : Int) (l0_2 : List (S66)) : Option (Int × Int × (List (S66))) := spec_l14Same.l0 k 0 a0_0 a0_1 l0_2 a0_0 a0_1 ([] : List (S66))
mutual
def spec_l14Held.l0 : Nat → Int → Bool → Int → Int → Int → List (S66) → Int → Int → Int → Int → Int → Int → List (S66) → Option (Int × Int × (List (S66)))
  | 0, _, _, _, _, _, _, _, _, _, _, _, _, _ => none
  | k + 1, x1, x8, x9, x158000, x158001, x158002, x159000, x159001, x159002, x159003, x161000, x161001, x161002 => if x9 < (x158002.length : Int) then (if x8 = true then (spec_l14Held.j1 k x1 x8 x9 false x158000 x158001 x158002 x159000 x159001 x159002 x159003 x161000 x161001 x161002) else (if 0 ≤ x9 then (spec_l14Held.j1 k x1 x8 x9 (decide (((rd_T66 x158002 x9).f0) > x159000)) x158000 x158001 x158002 x159000 x159001 x159002 x159003 x161000 x161001 x161002) else (none))) else (if x8 = true then (some (x161000, x161001, x161002)) else (if x161002.length < 4398046511104 then (some (x161000, x161001, (x161002 ++ [(⟨x159000, x159001, x159002, x159003⟩ : S66)]))) else (none)))
def spec_l14Held.j1 : Nat → Int → Bool → Int → Bool → Int → Int → List (S66) → Int → Int → Int → Int → Int → Int → List (S66) → Option (Int × Int × (List (S66)))
  | 0, _, _, _, _, _, _, _, _, _, _, _, _, _, _ => none
  | k + 1, x1, x8, x9, x37, x158000, x158001, x158002, x159000, x159001, x159002, x159003, x161000, x161001, x161002 => if x37 = true then (if x161002.length < 4398046511104 then ((some (x161002 ++ [(⟨x159000, x159001, x159002, x159003⟩ : S66)] : List (S66))).bind fun y165 => (if 0 ≤ x9 then (if x9 < (x158002.length : Int) then (if ((rd_T66 x158002 x9).f0) = x1 then (spec_l14Held.l0 k x1 true (wrap64 (x9 + 1)) x158000 x158001 x158002 x159000 x159001 x159002 x159003 x161000 x161001 y165) else (if y165.length < 4398046511104 then (spec_l14Held.l0 k x1 true (wrap64 (x9 + 1)) x158000 x158001 x158002 x159000 x159001 x159002 x159003 x161000 x161001 (y165 ++ [(⟨(rd_T66 x158002 x9).f0, (rd_T66 x158002 x9).f1, (rd_T66 x158002 x9).f2, (rd_T66 x158002 x9).f3⟩ : S66)])) else (none))) else (none)) else (none))) else (none)) else (if 0 ≤ x9 then (if x9 < (x158002.length : Int) then (if ((rd_T66 x158002 x9).f0) = x1 then (spec_l14Held.l0 k x1 x8 (wrap64 (x9 + 1)) x158000 x158001 x158002 x159000 x159001 x159002 x159003 x161000 x161001 x161002) else (if x161002.length < 4398046511104 then (spec_l14Held.l0 k x1 x8 (wrap64 (x9 + 1)) x158000 x158001 x158002 x159000 x159001 x159002 x159003 x161000 x161001 (x161002 ++ [(⟨(rd_T66 x158002 x9).f0, (rd_T66 x158002 x9).f1, (rd_T66 x158002 x9).f2, (rd_T66 x158002 x9).f3⟩ : S66)])) else (none))) else (none)) else (none))
end
def spec_l14Held.f (k : Nat) (a0_0 : Int) (a0_1 : Int) (l0_2 : List (S66)) (a1 : Int) (a2_0 : Int) (a2_1 : Int) (a2_2 : Int) (a2_3 : Int) : Option (Int × Int × (List (S66))) := spec_l14Held.l0 k a1 (a2_0 == 0) 0 a0_0 a0_1 l0_2 a2_0 a2_1 a2_2 a2_3 a0_0 a0_1 ([] : List (S66))
def spec_Unbook.l0 : Nat → Int → Int → Int → Int → List (S66) → Option (Int × Int × (List (S66)) × Bool)
  | 0, _, _, _, _, _ => none
  | k + 1, x1, x6, x179000, x179001, x179002 => if x6 < (x179002.length : Int) then (if 0 ≤ x6 then (if ((rd_T66 x179002 x6).f0) = x1 then ((spec_l14Held.f k x179000 x179001 x179002 x1 0 0 0 0).bind fun bt187 => (some (bt187.1, bt187.2.1, bt187.2.2, true))) else (spec_Unbook.l0 k x1 (wrap64 (x6 + 1)) x179000 x179001 x179002)) else (none)) else ((spec_l14Same.f k x179000 x179001 x179002).bind fun bt192 => (some (bt192.1, bt192.2.1, bt192.2.2, false)))
def spec_Unbook.f (k : Nat) (a0_0 : Int) (a0_1 : Int) (l0_2 : List (S66)) (a1 : Int) : Option (Int × Int × (List (S66)) × Bool) := (spec_TrainOk.f k a0_0 a0_1 l0_2).bind fun t180 => (if t180 = true then (spec_Unbook.l0 k a1 0 a0_0 a0_1 l0_2) else ((spec_l14Same.f k a0_0 a0_1 l0_2).bind fun bt181 => (some (bt181.1, bt181.2.1, bt181.2.2, false))))
def impl_between.f (a0 : Int) (a1 : Int) (a2 : Int) : Option (Bool) := if a0 ≥ a1 then (some (decide (a0 ≤ a2))) else (some false)
def impl_Train_ride.f (a0_0 : Int) (a0_1 : Int) (l0_2 : List (S66)) (a1 : Int) (a2 : Int) : Option (Bool) := if 0 ≤ a1 then (if a1 < a2 then (some (decide (a2 ≤ a0_1))) else (some false)) else (some false)
def impl_TrainOk.l4 (s p : Nat) (b : S66) : Bool := decide (b.f1 = (s : Int)) && decide (b.f2 ≤ (p : Int)) && decide ((p : Int) < b.f3)
def impl_TrainOk.l3 (b o : S66) : Bool := decide (o.f1 = b.f1) && decide (o.f2 < b.f3) && decide (b.f2 < o.f3)
def impl_TrainOk.l1 (seats pieces : Int) (l : List S66) (i : Nat) : Bool :=
  decide ((if i = 0 then 0 else (rd_T66 l ((i - 1 : Nat) : Int)).f0) < (rd_T66 l (i : Int)).f0) && decide (0 ≤ (rd_T66 l (i : Int)).f1 ∧ (rd_T66 l (i : Int)).f1 ≤ seats - 1) &&
    decide (0 ≤ (rd_T66 l (i : Int)).f2 ∧ (rd_T66 l (i : Int)).f2 < (rd_T66 l (i : Int)).f3 ∧ (rd_T66 l (i : Int)).f3 ≤ pieces) && !((l.take i).any (impl_TrainOk.l3 (rd_T66 l (i : Int))))
def impl_TrainOk.l0 (seats pieces : Int) (l : List S66) : Bool := decide (1 ≤ seats ∧ seats ≤ 60) && decide (1 ≤ pieces ∧ pieces ≤ 11) && decide (l.length ≤ 200) && (List.range l.length).all (impl_TrainOk.l1 seats pieces l)
def impl_TrainOk.f (a0_0 a0_1 : Int) (l0_2 : List S66) : Option Bool := some (impl_TrainOk.l0 a0_0 a0_1 l0_2)
def impl_cloneTrain.f (a0_0 : Int) (a0_1 : Int) (l0_2 : List (S66)) : Option (Int × Int × (List (S66))) := (some (([] : List (S66)) : List (S66))).bind fun y200 => (if y200.length + l0_2.length < 4398046511104 then (some (a0_0, a0_1, (y200 ++ l0_2))) else (none))
def impl_Unbook.l1 (l : List S66) (id : Int) : Int := if l.findIdx (fun o => o.f0 == id) < l.length then (l.findIdx (fun o => o.f0 == id) : Int) else -1
def impl_Unbook.l0 (l : List S66) (id : Int) : List S66 := if impl_Unbook.l1 l id < 0 then l else l.eraseIdx (impl_Unbook.l1 l id).toNat
def impl_Unbook.f (a0_0 a0_1 : Int) (l0_2 : List S66) (a1 : Int) : Option (Int × Int × List S66 × Bool) :=
  if l0_2.length < 4398046511104 then some (a0_0, a0_1, if impl_TrainOk.l0 a0_0 a0_1 l0_2 = true then impl_Unbook.l0 l0_2 a1 else l0_2, impl_TrainOk.l0 a0_0 a0_1 l0_2 && decide (0 ≤ impl_Unbook.l1 l0_2 a1)) else none
def laws_heldBookingS.l0 : Nat → List (S66) → Int → Int → Option (Int)
  | 0, _, _, _ => none
  | k + 1, x0, x1, x5 => if x5 < (x0.length : Int) then (if 0 ≤ x5 then (if ((rd_T66 x0 x5).f0) = x1 then (if ((rd_T66 x0 x5).f1) = (wrap64 (x1 + 1)) then (if ((rd_T66 x0 x5).f2) = (wrap64 ((wrap64 (x1 + 1)) + 1)) then (if ((rd_T66 x0 x5).f3) = (wrap64 ((wrap64 ((wrap64 (x1 + 1)) + 1)) + 1)) then (laws_heldBookingS.l0 k x0 (wrap64 ((wrap64 ((wrap64 ((wrap64 (x1 + 1)) + 1)) + 1)) + 1)) (wrap64 (x5 + 1))) else (some (-1))) else (some (-1))) else (some (-1))) else (some (-1))) else (none)) else (some x1)
def laws_heldBookingS.f (k : Nat) (l0 : List (S66)) (a1 : Int) : Option (Int) := laws_heldBookingS.l0 k l0 a1 0
def laws_heldTrain.f (k : Nat) (a0_0 : Int) (a0_1 : Int) (l0_2 : List (S66)) (a1 : Int) : Option (Int) := (laws_heldBookingS.f k l0_2 a1).bind fun t211 => (if t211 < 0 then (some (-1)) else (some t211))
mutual
def laws_FnExactUnbook.j0 : Nat → Int → Bool → Bool → Bool → Int → Int → List (S89) → Int → Int → List (S66) → Int → Int → List (S66) → Int → Int → List (S66) → Option (Bool)
  | 0, _, _, _, _, _, _, _, _, _, _, _, _, _, _, _, _ => none
  | k + 1, x1, x7, x10, x44, x213000, x213001, x213002, x226000, x226001, x226002, x232000, x232001, x232002, x239000, x239001, x239002 => if x44 = true then (some false) else ((laws_toTrain.f k x213000 x213001 x213002).bind fun bt240 => ((laws_eqTrain.f k x232000 x232001 x232002 bt240.1 bt240.2.1 bt240.2.2).bind fun t245 => (if t245 = true then ((laws_markTrain.f k x232000 x232001 x232002 1).bind fun bt246 => (if bt246.1 < 0 then (laws_FnExactUnbook.j1 k x1 x7 true x213000 x213001 x213002 x226000 x226001 x226002 x239000 x239001 x239002) else ((laws_eqTrain.f k x239000 x239001 x239002 x226000 x226001 x226002).bind fun t248 => (if t248 = true then (laws_FnExactUnbook.j1 k x1 x7 (x10 != x7) x213000 x213001 x213002 x226000 x226001 x226002 x239000 x239001 x239002) else (laws_FnExactUnbook.j1 k x1 x7 true x213000 x213001 x213002 x226000 x226001 x226002 x239000 x239001 x239002))))) else (some false))))
def laws_FnExactUnbook.j1 : Nat → Int → Bool → Bool → Int → Int → List (S89) → Int → Int → List (S66) → Int → Int → List (S66) → Option (Bool)
  | 0, _, _, _, _, _, _, _, _, _, _, _, _ => none
  | k + 1, x1, x7, x65, x213000, x213001, x213002, x226000, x226001, x226002, x239000, x239001, x239002 => if x65 = true then (some false) else ((laws_markTrain.f k x239000 x239001 x239002 1).bind fun bt249 => ((laws_heldTrain.f k x239000 x239001 bt249.2 1).bind fun t251 => (if t251 < 0 then (some false) else (if t251 = bt249.1 then ((laws_toTrain.f k x213000 x213001 x213002).bind fun bt252 => ((impl_Unbook.f bt252.1 bt252.2.1 bt252.2.2 x1).bind fun bt257 => ((laws_eqTrain.f k bt257.1 bt257.2.1 bt257.2.2.1 x226000 x226001 x226002).bind fun t264 => (if t264 = true then (laws_FnExactUnbook.j2 k bt249.1 (bt257.2.2.2 != x7) x239000 x239001 bt249.2) else (laws_FnExactUnbook.j2 k bt249.1 true x239000 x239001 bt249.2))))) else (some false)))))
def laws_FnExactUnbook.j2 : Nat → Int → Bool → Int → Int → List (S66) → Option (Bool)
  | 0, _, _, _, _, _ => none
  | k + 1, x12, x92, x239000, x239001, x239002 => if x92 = true then (some false) else ((laws_heldTrain.f k x239000 x239001 x239002 1).bind fun t265 => (if t265 < 0 then (some false) else (if t265 = x12 then (some true) else (some false))))
end
def laws_FnExactUnbook.f (k : Nat) (a0_0 : Int) (a0_1 : Int) (l0_2 : List (S89)) (a1 : Int) : Option (Bool) := (laws_szTrain.f a0_0 a0_1 l0_2 1048576).bind fun t213 => (if t213 < 0 then (some true) else ((laws_toTrain.f k a0_0 a0_1 l0_2).bind fun bt214 => ((spec_Unbook.f k bt214.1 bt214.2.1 bt214.2.2 a1).bind fun bt219 => ((laws_toTrain.f k a0_0 a0_1 l0_2).bind fun bt226 => ((impl_Unbook.f bt226.1 bt226.2.1 bt226.2.2 a1).bind fun bt232 => ((laws_eqTrain.f k bt232.1 bt232.2.1 bt232.2.2.1 bt219.1 bt219.2.1 bt219.2.2.1).bind fun t239 => (if t239 = true then (laws_FnExactUnbook.j0 k a1 bt219.2.2.2 bt232.2.2.2 (bt232.2.2.2 != bt219.2.2.2) a0_0 a0_1 l0_2 bt219.1 bt219.2.1 bt219.2.2.1 bt226.1 bt226.2.1 bt226.2.2 bt232.1 bt232.2.1 bt232.2.2.1) else (laws_FnExactUnbook.j0 k a1 bt219.2.2.2 bt232.2.2.2 true a0_0 a0_1 l0_2 bt219.1 bt219.2.1 bt219.2.2.1 bt226.1 bt226.2.1 bt226.2.2 bt232.1 bt232.2.1 bt232.2.2.1))))))))
end Go.Proofs.Ytklikbjlfaednaa.P

/- The functions of the program as plain Lean functions, without memory and machine; written by a program of the session. -/
import Derived.Test.YtklikbjlfaednaaProg
import Derived.Test.YtklikbjlfaednaaV
namespace Go.Proofs.Ytklikbjlfaednaa.P
open Go.RowKit Go.Proofs.YtklikbjlfaednaaW.PrintWords Go.Proofs.YtklikbjlfaednaaW.PrintLast Go.Proofs.YtklikbjlfaednaaW.PrintMore
set_option linter.unusedVariables false

structure S89 where
  f0 : Int
  f1 : Int
  f2 : Int
  f3 : Int
def z89 : S89 := ⟨(0 : Int), (0 : Int), (0 : Int), (0 : Int)⟩
def rd_T89 (xs : List S89) (i : Int) : S89 := xs.getD i.toNat z89
structure S66 where
  f0 : Int
  f1 : Int
  f2 : Int
  f3 : Int
def z66 : S66 := ⟨(0 : Int), (0 : Int), (0 : Int), (0 : Int)⟩
def rd_T66 (xs : List S66) (i : Int) : S66 := xs.getD i.toNat z66
def rd_L3 (xs : List (List S89)) (i : Int) : (List S89) := xs.getD i.toNat ([] : List S89)
structure S24 where
  f0 : Int
  f1 : Int
  f2 : (List S89)
def z24 : S24 := ⟨(0 : Int), (0 : Int), ([] : List S89)⟩
def rd_T24 (xs : List S24) (i : Int) : S24 := xs.getD i.toNat z24
def laws_szBookingS.f (l0 : List (S89)) (a1 : Int) : Option (Int) := if (wrap64 (a1 - (l0.length : Int))) < 0 then (some (-1)) else (some (wrap64 (a1 - (l0.length : Int))))
def laws_szTrain.f (a0_0 : Int) (a0_1 : Int) (l0_2 : List (S89)) (a1 : Int) : Option (Int) := (laws_szBookingS.f l0_2 a1).bind fun t102 => (if t102 < 0 then (some (-1)) else (some t102))
def spec_l01In.f (a0 : Int) (a1 : Int) (a2 : Int) : Option (Bool) := if a1 ≤ a0 then (some (decide (a0 ≤ a2))) else (some false)
mutual
def spec_TrainOk.j0 : Nat → Bool → Int → Int → List (S66) → Option (Bool)
  | 0, _, _, _, _ => none
  | k + 1, x22, x104000, x104001, x104002 => if x22 = true then (some false) else (spec_TrainOk.l0 k 0 x104000 x104001 x104002)
def spec_TrainOk.l0 : Nat → Int → Int → Int → List (S66) → Option (Bool)
  | 0, _, _, _, _ => none
  | k + 1, x3, x104000, x104001, x104002 => if x3 < (x104002.length : Int) then (if 0 ≤ x3 then (if ((rd_T66 x104002 x3).f0) ≤ 0 then (spec_TrainOk.j2 k x3 true x104000 x104001 x104002 ((rd_T66 x104002 x3).f0) ((rd_T66 x104002 x3).f1) ((rd_T66 x104002 x3).f2) ((rd_T66 x104002 x3).f3)) else (if x3 > 0 then (if 0 ≤ (wrap64 (x3 - 1)) then (if (wrap64 (x3 - 1)) < (x104002.length : Int) then (if ((rd_T66 x104002 (wrap64 (x3 - 1))).f0) ≥ ((rd_T66 x104002 x3).f0) then (spec_TrainOk.j2 k x3 true x104000 x104001 x104002 ((rd_T66 x104002 x3).f0) ((rd_T66 x104002 x3).f1) ((rd_T66 x104002 x3).f2) ((rd_T66 x104002 x3).f3)) else ((spec_l01In.f ((rd_T66 x104002 x3).f1) 0 (wrap64 (x104000 - 1))).bind fun t109 => (if t109 = true then ((spec_l01In.f ((rd_T66 x104002 x3).f3) 1 x104001).bind fun t110 => (if t110 = true then ((spec_l01In.f ((rd_T66 x104002 x3).f2) 0 (wrap64 (((rd_T66 x104002 x3).f3) - 1))).bind fun t111 => (spec_TrainOk.j2 k x3 (!t111) x104000 x104001 x104002 ((rd_T66 x104002 x3).f0) ((rd_T66 x104002 x3).f1) ((rd_T66 x104002 x3).f2) ((rd_T66 x104002 x3).f3))) else (spec_TrainOk.j2 k x3 true x104000 x104001 x104002 ((rd_T66 x104002 x3).f0) ((rd_T66 x104002 x3).f1) ((rd_T66 x104002 x3).f2) ((rd_T66 x104002 x3).f3)))) else (spec_TrainOk.j2 k x3 true x104000 x104001 x104002 ((rd_T66 x104002 x3).f0) ((rd_T66 x104002 x3).f1) ((rd_T66 x104002 x3).f2) ((rd_T66 x104002 x3).f3))))) else (none)) else (none)) else ((spec_l01In.f ((rd_T66 x104002 x3).f1) 0 (wrap64 (x104000 - 1))).bind fun t112 => (if t112 = true then ((spec_l01In.f ((rd_T66 x104002 x3).f3) 1 x104001).bind fun t113 => (if t113 = true then ((spec_l01In.f ((rd_T66 x104002 x3).f2) 0 (wrap64 (((rd_T66 x104002 x3).f3) - 1))).bind fun t114 => (spec_TrainOk.j2 k x3 (!t114) x104000 x104001 x104002 ((rd_T66 x104002 x3).f0) ((rd_T66 x104002 x3).f1) ((rd_T66 x104002 x3).f2) ((rd_T66 x104002 x3).f3))) else (spec_TrainOk.j2 k x3 true x104000 x104001 x104002 ((rd_T66 x104002 x3).f0) ((rd_T66 x104002 x3).f1) ((rd_T66 x104002 x3).f2) ((rd_T66 x104002 x3).f3)))) else (spec_TrainOk.j2 k x3 true x104000 x104001 x104002 ((rd_T66 x104002 x3).f0) ((rd_T66 x104002 x3).f1) ((rd_T66 x104002 x3).f2) ((rd_T66 x104002 x3).f3)))))) else (none)) else (some true)
def spec_TrainOk.j2 : Nat → Int → Bool → Int → Int → List (S66) → Int → Int → Int → Int → Option (Bool)
  | 0, _, _, _, _, _, _, _, _, _ => none
  | k + 1, x3, x79, x104000, x104001, x104002, x108000, x108001, x108002, x108003 => if x79 = true then (some false) else (spec_TrainOk.l1 k x3 0 x104000 x104001 x104002 x108000 x108001 x108002 x108003)
def spec_TrainOk.l1 : Nat → Int → Int → Int → Int → List (S66) → Int → Int → Int → Int → Option (Bool)
  | 0, _, _, _, _, _, _, _, _, _ => none
  | k + 1, x3, x5, x104000, x104001, x104002, x108000, x108001, x108002, x108003 => if x5 < x3 then (if 0 ≤ x5 then (if x5 < (x104002.length : Int) then (if ((rd_T66 x104002 x5).f1) = x108001 then (if ((rd_T66 x104002 x5).f2) < x108003 then (if x108002 < ((rd_T66 x104002 x5).f3) then (some false) else (spec_TrainOk.l1 k x3 (wrap64 (x5 + 1)) x104000 x104001 x104002 x108000 x108001 x108002 x108003)) else (spec_TrainOk.l1 k x3 (wrap64 (x5 + 1)) x104000 x104001 x104002 x108000 x108001 x108002 x108003)) else (spec_TrainOk.l1 k x3 (wrap64 (x5 + 1)) x104000 x104001 x104002 x108000 x108001 x108002 x108003)) else (none)) else (none)) else (spec_TrainOk.l0 k (wrap64 (x3 + 1)) x104000 x104001 x104002)
end
def spec_TrainOk.f (k : Nat) (a0_0 : Int) (a0_1 : Int) (l0_2 : List (S66)) : Option (Bool) := (spec_l01In.f a0_0 1 60).bind fun t104 => (if t104 = true then ((spec_l01In.f a0_1 1 11).bind fun t105 => (if t105 = true then (spec_TrainOk.j0 k (decide ((l0_2.length : Int) > 200)) a0_0 a0_1 l0_2) else (spec_TrainOk.j0 k true a0_0 a0_1 l0_2))) else (spec_TrainOk.j0 k true a0_0 a0_1 l0_2))
def laws_toBooking.f (a0_0 : Int) (a0_1 : Int) (a0_2 : Int) (a0_3 : Int) : Option (Int × Int × Int × Int) := some (a0_0, a0_1, a0_2, a0_3)
def laws_toBookingS.l0 : Nat → List (S89) → List (S66) → Int → Option ((List (S66)))
  | 0, _, _, _ => none
  | k + 1, x0, x3, x4 => if x4 < (x0.length : Int) then (if 0 ≤ x4 then ((laws_toBooking.f ((rd_T89 x0 x4).f0) ((rd_T89 x0 x4).f1) ((rd_T89 x0 x4).f2) ((rd_T89 x0 x4).f3)).bind fun bt124 => (if x4 < (x3.length : Int) then (laws_toBookingS.l0 k x0 (x3.set (x4 : Int).toNat (⟨bt124.1, bt124.2.1, bt124.2.2.1, bt124.2.2.2⟩ : S66)) (wrap64 (x4 + 1))) else (none))) else (none)) else (some x3)
def laws_toBookingS.f (k : Nat) (l0 : List (S89)) : Option ((List (S66))) := if 0 ≤ (l0.length : Int) then (if ((l0.length : Int) : Int).toNat ≤ 8796093022208 then (laws_toBookingS.l0 k l0 (List.replicate ((l0.length : Int) : Int).toNat z66) 0) else (none)) else (none)
def laws_toTrain.f (k : Nat) (a0_0 : Int) (a0_1 : Int) (l0_2 : List (S89)) : Option (Int × Int × (List (S66))) := (laws_toBookingS.f k l0_2).bind fun t132 => (some (a0_0, a0_1, t132))
def impl_between.f (a0 : Int) (a1 : Int) (a2 : Int) : Option (Bool) := if a0 ≥ a1 then (some (decide (a0 ≤ a2))) else (some false)
def impl_Train_ride.f (a0_0 : Int) (a0_1 : Int) (l0_2 : List (S66)) (a1 : Int) (a2 : Int) : Option (Bool) := if 0 ≤ a1 then (if a1 < a2 then (some (decide (a2 ≤ a0_1))) else (some false)) else (some false)
def impl_TrainOk.l3 (b o : S66) : Bool := decide (o.f1 = b.f1) && decide (o.f2 < b.f3) && decide (b.f2 < o.f3)
def impl_TrainOk.l1 (seats pieces : Int) (l : List S66) (i : Nat) : Bool :=
  decide ((if i = 0 then 0 else (rd_T66 l ((i - 1 : Nat) : Int)).f0) < (rd_T66 l (i : Int)).f0) && decide (0 ≤ (rd_T66 l (i : Int)).f1 ∧ (rd_T66 l (i : Int)).f1 ≤ seats - 1) &&
    decide (0 ≤ (rd_T66 l (i : Int)).f2 ∧ (rd_T66 l (i : Int)).f2 < (rd_T66 l (i : Int)).f3 ∧ (rd_T66 l (i : Int)).f3 ≤ pieces) && !((l.take i).any (impl_TrainOk.l3 (rd_T66 l (i : Int))))
def impl_TrainOk.l0 (seats pieces : Int) (l : List S66) : Bool := decide (1 ≤ seats ∧ seats ≤ 60) && decide (1 ≤ pieces ∧ pieces ≤ 11) && decide (l.length ≤ 200) && (List.range l.length).all (impl_TrainOk.l1 seats pieces l)
def impl_TrainOk.f (a0_0 a0_1 : Int) (l0_2 : List S66) : Option Bool := some (impl_TrainOk.l0 a0_0 a0_1 l0_2)
def laws_eqBooking.f (a0_0 : Int) (a0_1 : Int) (a0_2 : Int) (a0_3 : Int) (a1_0 : Int) (a1_1 : Int) (a1_2 : Int) (a1_3 : Int) : Option (Bool) := if a0_0 = a1_0 then (if a0_1 = a1_1 then (if a0_2 = a1_2 then (if a0_3 = a1_3 then (some true) else (some false)) else (some false)) else (some false)) else (some false)
def laws_eqBookingS.l0 : Nat → List (S66) → List (S66) → Int → Option (Bool)
  | 0, _, _, _ => none
  | k + 1, x0, x1, x5 => if x5 < (x0.length : Int) then (if 0 ≤ x5 then (if x5 < (x1.length : Int) then ((laws_eqBooking.f ((rd_T66 x0 x5).f0) ((rd_T66 x0 x5).f1) ((rd_T66 x0 x5).f2) ((rd_T66 x0 x5).f3) ((rd_T66 x1 x5).f0) ((rd_T66 x1 x5).f1) ((rd_T66 x1 x5).f2) ((rd_T66 x1 x5).f3)).bind fun t140 => (if t140 = true then (laws_eqBookingS.l0 k x0 x1 (wrap64 (x5 + 1))) else (some false))) else (none)) else (none)) else (some true)
def laws_eqBookingS.f (k : Nat) (l0 : List (S66)) (l1 : List (S66)) : Option (Bool) := if (l0.length : Int) = (l1.length : Int) then (laws_eqBookingS.l0 k l0 l1 0) else (some false)
def laws_eqTrain.f (k : Nat) (a0_0 : Int) (a0_1 : Int) (l0_2 : List (S66)) (a1_0 : Int) (a1_1 : Int) (l1_2 : List (S66)) : Option (Bool) := if a0_0 = a1_0 then (if a0_1 = a1_1 then ((laws_eqBookingS.f k l0_2 l1_2).bind fun t143 => (if t143 = true then (some true) else (some false))) else (some false)) else (some false)
def laws_FnExactTrainOk.f (k : Nat) (a0_0 : Int) (a0_1 : Int) (l0_2 : List (S89)) : Option (Bool) := (laws_szTrain.f a0_0 a0_1 l0_2 1048576).bind fun t145 => (if t145 < 0 then (some true) else ((laws_toTrain.f k a0_0 a0_1 l0_2).bind fun bt146 => ((spec_TrainOk.f k bt146.1 bt146.2.1 bt146.2.2).bind fun t151 => ((laws_toTrain.f k a0_0 a0_1 l0_2).bind fun bt152 => ((impl_TrainOk.f bt152.1 bt152.2.1 bt152.2.2).bind fun t158 => (if (t158 != t151) = true then (some false) else ((laws_toTrain.f k a0_0 a0_1 l0_2).bind fun bt159 => ((laws_eqTrain.f k bt152.1 bt152.2.1 bt152.2.2 bt159.1 bt159.2.1 bt159.2.2).bind fun t164 => (if t164 = true then (some true) else (some false))))))))))
end Go.Proofs.Ytklikbjlfaednaa.P

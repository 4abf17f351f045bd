/- The functions of the program as plain Lean functions, without memory and machine; written by a program of the session. -/
import Derived.Test.YtklikbjlfaednaaProg
import Derived.Test.YtklikbjlfaednaaV
namespace Go.Proofs.Ytklikbjlfaednaa.P
open Go.RowKit Go.Proofs.YtklikbjlfaednaaW.PrintWords Go.Proofs.YtklikbjlfaednaaW.PrintLast Go.Proofs.YtklikbjlfaednaaW.PrintMore
set_option linter.unusedVariables false

structure S89 where
  f0 : Int
  f1 : Int
  f2 : Int
  f3 : Int
def z89 : S89 := ⟨(0 : Int), (0 : Int), (0 : Int), (0 : Int)⟩
def rd_T89 (xs : List S89) (i : Int) : S89 := xs.getD i.toNat z89
structure S66 where
  f0 : Int
  f1 : Int
  f2 : Int
  f3 : Int
def z66 : S66 := ⟨(0 : Int), (0 : Int), (0 : Int), (0 : Int)⟩
def rd_T66 (xs : List S66) (i : Int) : S66 := xs.getD i.toNat z66
def rd_L4 (xs : List (List S89)) (i : Int) : (List S89) := xs.getD i.toNat ([] : List S89)
structure S24 where
  f0 : Int
  f1 : Int
  f2 : (List S89)
def z24 : S24 := ⟨(0 : Int), (0 : Int), ([] : List S89)⟩
def rd_T24 (xs : List S24) (i : Int) : S24 := xs.getD i.toNat z24
def laws_szBookingS.f (l0 : List (S89)) (a1 : Int) : Option (Int) := if (wrap64 (a1 - (l0.length : Int))) < 0 then (some (-1)) else (some (wrap64 (a1 - (l0.length : Int))))
def laws_szTrain.f (a0_0 : Int) (a0_1 : Int) (l0_2 : List (S89)) (a1 : Int) : Option (Int) := (laws_szBookingS.f l0_2 a1).bind fun t102 => (if t102 < 0 then (some (-1)) else (some t102))
def laws_toBooking.f (a0_0 : Int) (a0_1 : Int) (a0_2 : Int) (a0_3 : Int) : Option (Int × Int × Int × Int) := some (a0_0, a0_1, a0_2, a0_3)
def laws_toBookingS.l0 : Nat → List (S89) → List (S66) → Int → Option ((List (S66)))
  | 0, _, _, _ => none
  | k + 1, x0, x3, x4 => if x4 < (x0.length : Int) then (if 0 ≤ x4 then ((laws_toBooking.f ((rd_T89 x0 x4).f0) ((rd_T89 x0 x4).f1) ((rd_T89 x0 x4).f2) ((rd_T89 x0 x4).f3)).bind fun bt110 => (if x4 < (x3.length : Int) then (laws_toBookingS.l0 k x0 (x3.set (x4 : Int).toNat (⟨bt110.1, bt110.2.1, bt110.2.2.1, bt110.2.2.2⟩ : S66)) (wrap64 (x4 + 1))) else (none))) else (none)) else (some x3)
def laws_toBookingS.f (k : Nat) (l0 : List (S89)) : Option ((List (S66))) := if 0 ≤ (l0.length : Int) then (if ((l0.length : Int) : Int).toNat ≤ 8796093022208 then (laws_toBookingS.l0 k l0 (List.replicate ((l0.length : Int) : Int).toNat z66) 0) else (none)) else (none)
def laws_toTrain.f (k : Nat) (a0_0 : Int) (a0_1 : Int) (l0_2 : List (S89)) : Option (Int × Int × (List (S66))) := (laws_toBookingS.f k l0_2).bind fun t118 => (some (a0_0, a0_1, t118))
def laws_eqBooking.f (a0_0 : Int) (a0_1 : Int) (a0_2 : Int) (a0_3 : Int) (a1_0 : Int) (a1_1 : Int) (a1_2 : Int) (a1_3 : Int) : Option (Bool) := if a0_0 = a1_0 then (if a0_1 = a1_1 then (if a0_2 = a1_2 then (if a0_3 = a1_3 then (some true) else (some false)) else (some false)) else (some false)) else (some false)
def laws_eqBookingS.l0 : Nat → List (S66) → List (S66) → Int → Option (Bool)
  | 0, _, _, _ => none
  | k + 1, x0, x1, x5 => if x5 < (x0.length : Int) then (if 0 ≤ x5 then (if x5 < (x1.length : Int) then ((laws_eqBooking.f ((rd_T66 x0 x5).f0) ((rd_T66 x0 x5).f1) ((rd_T66 x0 x5).f2) ((rd_T66 x0 x5).f3) ((rd_T66 x1 x5).f0) ((rd_T66 x1 x5).f1) ((rd_T66 x1 x5).f2) ((rd_T66 x1 x5).f3)).bind fun t125 => (if t125 = true then (laws_eqBookingS.l0 k x0 x1 (wrap64 (x5 + 1))) else (some false))) else (none)) else (none)) else (some true)
def laws_eqBookingS.f (k : Nat) (l0 : List (S66)) (l1 : List (S66)) : Option (Bool) := if (l0.length : Int) = (l1.length : Int) then (laws_eqBookingS.l0 k l0 l1 0) else (some false)
def laws_eqTrain.f (k : Nat) (a0_0 : Int) (a0_1 : Int) (l0_2 : List (S66)) (a1_0 : Int) (a1_1 : Int) (l1_2 : List (S66)) : Option (Bool) := if a0_0 = a1_0 then (if a0_1 = a1_1 then ((laws_eqBookingS.f k l0_2 l1_2).bind fun t128 => (if t128 = true then (some true) else (some false))) else (some false)) else (some false)
def spec_l01In.f (a0 : Int) (a1 : Int) (a2 : Int) : Option (Bool) := if a1 ≤ a0 then (some (decide (a0 ≤ a2))) else (some false)
mutual
def spec_TrainOk.j0 : Nat → Bool → Int → Int → List (S66) → Option (Bool)
  | 0, _, _, _, _ => none
  | k + 1, x22, x130000, x130001, x130002 => if x22 = true then (some false) else (spec_TrainOk.l0 k 0 x130000 x130001 x130002)
def spec_TrainOk.l0 : Nat → Int → Int → Int → List (S66) → Option (Bool)
  | 0, _, _, _, _ => none
  | k + 1, x3, x130000, x130001, x130002 => if x3 < (x130002.length : Int) then (if 0 ≤ x3 then (if ((rd_T66 x130002 x3).f0) ≤ 0 then (spec_TrainOk.j2 k x3 true x130000 x130001 x130002 ((rd_T66 x130002 x3).f0) ((rd_T66 x130002 x3).f1) ((rd_T66 x130002 x3).f2) ((rd_T66 x130002 x3).f3)) else (if x3 > 0 then (if 0 ≤ (wrap64 (x3 - 1)) then (if (wrap64 (x3 - 1)) < (x130002.length : Int) then (if ((rd_T66 x130002 (wrap64 (x3 - 1))).f0) ≥ ((rd_T66 x130002 x3).f0) then (spec_TrainOk.j2 k x3 true x130000 x130001 x130002 ((rd_T66 x130002 x3).f0) ((rd_T66 x130002 x3).f1) ((rd_T66 x130002 x3).f2) ((rd_T66 x130002 x3).f3)) else ((spec_l01In.f ((rd_T66 x130002 x3).f1) 0 (wrap64 (x130000 - 1))).bind fun t135 => (if t135 = true then ((spec_l01In.f ((rd_T66 x130002 x3).f3) 1 x130001).bind fun t136 => (if t136 = true then ((spec_l01In.f ((rd_T66 x130002 x3).f2) 0 (wrap64 (((rd_T66 x130002 x3).f3) - 1))).bind fun t137 => (spec_TrainOk.j2 k x3 (!t137) x130000 x130001 x130002 ((rd_T66 x130002 x3).f0) ((rd_T66 x130002 x3).f1) ((rd_T66 x130002 x3).f2) ((rd_T66 x130002 x3).f3))) else (spec_TrainOk.j2 k x3 true x130000 x130001 x130002 ((rd_T66 x130002 x3).f0) ((rd_T66 x130002 x3).f1) ((rd_T66 x130002 x3).f2) ((rd_T66 x130002 x3).f3)))) else (spec_TrainOk.j2 k x3 true x130000 x130001 x130002 ((rd_T66 x130002 x3).f0) ((rd_T66 x130002 x3).f1) ((rd_T66 x130002 x3).f2) ((rd_T66 x130002 x3).f3))))) else (none)) else (none)) else ((spec_l01In.f ((rd_T66 x130002 x3).f1) 0 (wrap64 (x130000 - 1))).bind fun t138 => (if t138 = true then ((spec_l01In.f ((rd_T66 x130002 x3).f3) 1 x130001).bind fun t139 => (if t139 = true then ((spec_l01In.f ((rd_T66 x130002 x3).f2) 0 (wrap64 (((rd_T66 x130002 x3).f3) - 1))).bind fun t140 => (spec_TrainOk.j2 k x3 (!t140) x130000 x130001 x130002 ((rd_T66 x130002 x3).f0) ((rd_T66 x130002 x3).f1) ((rd_T66 x130002 x3).f2) ((rd_T66 x130002 x3).f3))) else (spec_TrainOk.j2 k x3 true x130000 x130001 x130002 ((rd_T66 x130002 x3).f0) ((rd_T66 x130002 x3).f1) ((rd_T66 x130002 x3).f2) ((rd_T66 x130002 x3).f3)))) else (spec_TrainOk.j2 k x3 true x130000 x130001 x130002 ((rd_T66 x130002 x3).f0) ((rd_T66 x130002 x3).f1) ((rd_T66 x130002 x3).f2) ((rd_T66 x130002 x3).f3)))))) else (none)) else (some true)
def spec_TrainOk.j2 : Nat → Int → Bool → Int → Int → List (S66) → Int → Int → Int → Int → Option (Bool)
  | 0, _, _, _, _, _, _, _, _, _ => none
  | k + 1, x3, x79, x130000, x130001, x130002, x134000, x134001, x134002, x134003 => if x79 = true then (some false) else (spec_TrainOk.l1 k x3 0 x130000 x130001 x130002 x134000 x134001 x134002 x134003)
def spec_TrainOk.l1 : Nat → Int → Int → Int → Int → List (S66) → Int → Int → Int → Int → Option (Bool)
  | 0, _, _, _, _, _, _, _, _, _ => none
  | k + 1, x3, x5, x130000, x130001, x130002, x134000, x134001, x134002, x134003 => if x5 < x3 then (if 0 ≤ x5 then (if x5 < (x130002.length : Int) then (if ((rd_T66 x130002 x5).f1) = x134001 then (if ((rd_T66 x130002 x5).f2) < x134003 then (if x134002 < ((rd_T66 x130002 x5).f3) then (some false) else (spec_TrainOk.l1 k x3 (wrap64 (x5 + 1)) x130000 x130001 x130002 x134000 x134001 x134002 x134003)) else (spec_TrainOk.l1 k x3 (wrap64 (x5 + 1)) x130000 x130001 x130002 x134000 x134001 x134002 x134003)) else (spec_TrainOk.l1 k x3 (wrap64 (x5 + 1)) x130000 x130001 x130002 x134000 x134001 x134002 x134003)) else (none)) else (none)) else (spec_TrainOk.l0 k (wrap64 (x3 + 1)) x130000 x130001 x130002)
end
def spec_TrainOk.f (k : Nat) (a0_0 : Int) (a0_1 : Int) (l0_2 : List (S66)) : Option (Bool) := (spec_l01In.f a0_0 1 60).bind fun t130 => (if t130 = true then ((spec_l01In.f a0_1 1 11).bind fun t131 => (if t131 = true then (spec_TrainOk.j0 k (decide ((l0_2.length : Int) > 200)) a0_0 a0_1 l0_2) else (spec_TrainOk.j0 k true a0_0 a0_1 l0_2))) else (spec_TrainOk.j0 k true a0_0 a0_1 l0_2))
def spec_l14Asked.f (k : Nat) (a0_0 : Int) (a0_1 : Int) (l0_2 : List (S66)) (a1 : Int) (a2 : Int) : Option (Bool) := (spec_TrainOk.f k a0_0 a0_1 l0_2).bind fun t144 => (if t144 = true then ((spec_l01In.f a2 1 a0_1).bind fun t145 => (if t145 = true then ((spec_l01In.f a1 0 (wrap64 (a2 - 1))).bind fun t146 => (some t146)) else (some false))) else (some false))
def spec_l14Free.l0 : Nat → Int → Int → Int → Int → Int → List (S66) → Option (Bool)
  | 0, _, _, _, _, _, _ => none
  | k + 1, x1, x2, x7, x148000, x148001, x148002 => if x7 < (x148002.length : Int) then (if 0 ≤ x7 then (if ((rd_T66 x148002 x7).f1) = x1 then ((spec_l01In.f x2 ((rd_T66 x148002 x7).f2) (wrap64 (((rd_T66 x148002 x7).f3) - 1))).bind fun t151 => (if t151 = true then (some false) else (spec_l14Free.l0 k x1 x2 (wrap64 (x7 + 1)) x148000 x148001 x148002))) else (spec_l14Free.l0 k x1 x2 (wrap64 (x7 + 1)) x148000 x148001 x148002)) else (none)) else (some true)
def spec_l14Free.f (k : Nat) (a0_0 : Int) (a0_1 : Int) (l0_2 : List (S66)) (a1 : Int) (a2 : Int) : Option (Bool) := spec_l14Free.l0 k a1 a2 0 a0_0 a0_1 l0_2
mutual
def spec_FreeSeats.l0 : Nat → Int → Int → List Int → Int → Int → Int → List (S66) → Option (List Int)
  | 0, _, _, _, _, _, _, _ => none
  | k + 1, x1, x2, x7, x8, x153000, x153001, x153002 => if x8 < x153000 then (spec_FreeSeats.l1 k x1 x2 x7 x8 true x1 x153000 x153001 x153002) else (some x7)
def spec_FreeSeats.l1 : Nat → Int → Int → List Int → Int → Bool → Int → Int → Int → List (S66) → Option (List Int)
  | 0, _, _, _, _, _, _, _, _, _ => none
  | k + 1, x1, x2, x7, x8, x9, x10, x153000, x153001, x153002 => if x10 < x2 then ((spec_l14Free.f k x153000 x153001 x153002 x8 x10).bind fun t157 => (if t157 = true then (spec_FreeSeats.l1 k x1 x2 x7 x8 x9 (wrap64 (x10 + 1)) x153000 x153001 x153002) else (spec_FreeSeats.l1 k x1 x2 x7 x8 false (wrap64 (x10 + 1)) x153000 x153001 x153002))) else (if x9 = true then (if x7.length < 17592186044416 then (spec_FreeSeats.l0 k x1 x2 (x7 ++ [x8]) (wrap64 (x8 + 1)) x153000 x153001 x153002) else (none)) else (spec_FreeSeats.l0 k x1 x2 x7 (wrap64 (x8 + 1)) x153000 x153001 x153002))
end
def spec_FreeSeats.f (k : Nat) (a0_0 : Int) (a0_1 : Int) (l0_2 : List (S66)) (a1 : Int) (a2 : Int) : Option (List Int) := (spec_l14Asked.f k a0_0 a0_1 l0_2 a1 a2).bind fun t153 => (if t153 = true then (spec_FreeSeats.l0 k a1 a2 (([] : List Int)) 0 a0_0 a0_1 l0_2) else (some ([] : List Int)))
def spec_l01Has.l0 : Nat → List Int → Int → Int → Option (Bool)
  | 0, _, _, _ => none
  | k + 1, x0, x1, x5 => if x5 < (x0.length : Int) then (if 0 ≤ x5 then (if (rd x0 x5) = x1 then (some true) else (spec_l01Has.l0 k x0 x1 (wrap64 (x5 + 1)))) else (none)) else (some false)
def spec_l01Has.f (k : Nat) (l0 : List Int) (a1 : Int) : Option (Bool) := spec_l01Has.l0 k l0 a1 0
mutual
def spec_Hole.j1 : Nat → Int → Int → Int → Int → Int → List (S66) → Option (Int)
  | 0, _, _, _, _, _, _ => none
  | k + 1, x1, x2, x3, x163000, x163001, x163002 => spec_Hole.l1 k x1 x2 x3 x163000 x163001 x163002
def spec_Hole.l1 : Nat → Int → Int → Int → Int → Int → List (S66) → Option (Int)
  | 0, _, _, _, _, _, _ => none
  | k + 1, x1, x2, x3, x163000, x163001, x163002 => if x3 < x163001 then ((spec_l14Free.f k x163000 x163001 x163002 x1 x3).bind fun t168 => (if t168 = true then (spec_Hole.l1 k x1 x2 (wrap64 (x3 + 1)) x163000 x163001 x163002) else (some (wrap64 (x3 - x2))))) else (some (wrap64 (x3 - x2)))
def spec_Hole.l0 : Nat → Int → Int → Int → Int → Int → List (S66) → Option (Int)
  | 0, _, _, _, _, _, _ => none
  | k + 1, x1, x2, x3, x163000, x163001, x163002 => if x2 > 0 then ((spec_l14Free.f k x163000 x163001 x163002 x1 (wrap64 (x2 - 1))).bind fun t167 => (if t167 = true then (spec_Hole.l0 k x1 (wrap64 (x2 - 1)) x3 x163000 x163001 x163002) else (spec_Hole.j1 k x1 x2 x3 x163000 x163001 x163002))) else (spec_Hole.j1 k x1 x2 x3 x163000 x163001 x163002)
end
def spec_Hole.f (k : Nat) (a0_0 : Int) (a0_1 : Int) (l0_2 : List (S66)) (a1 : Int) (a2 : Int) (a3 : Int) : Option (Int) := (spec_FreeSeats.f k a0_0 a0_1 l0_2 a2 a3).bind fun t163 => ((spec_l01Has.f k t163 a1).bind fun t166 => (if t166 = true then (spec_Hole.l0 k a1 a2 a3 a0_0 a0_1 l0_2) else (some 0)))
def impl_between.f (a0 : Int) (a1 : Int) (a2 : Int) : Option (Bool) := if a0 ≥ a1 then (some (decide (a0 ≤ a2))) else (some false)
def impl_Train_ride.f (a0_0 : Int) (a0_1 : Int) (l0_2 : List (S66)) (a1 : Int) (a2 : Int) : Option (Bool) := if 0 ≤ a1 then (if a1 < a2 then (some (decide (a2 ≤ a0_1))) else (some false)) else (some false)
def impl_TrainOk.l4 (s p : Nat) (b : S66) : Bool := decide (b.f1 = (s : Int)) && decide (b.f2 ≤ (p : Int)) && decide ((p : Int) < b.f3)
def impl_TrainOk.l3 (b o : S66) : Bool := decide (o.f1 = b.f1) && decide (o.f2 < b.f3) && decide (b.f2 < o.f3)
def impl_TrainOk.l1 (seats pieces : Int) (l : List S66) (i : Nat) : Bool :=
  decide ((if i = 0 then 0 else (rd_T66 l ((i - 1 : Nat) : Int)).f0) < (rd_T66 l (i : Int)).f0) && decide (0 ≤ (rd_T66 l (i : Int)).f1 ∧ (rd_T66 l (i : Int)).f1 ≤ seats - 1) &&
    decide (0 ≤ (rd_T66 l (i : Int)).f2 ∧ (rd_T66 l (i : Int)).f2 < (rd_T66 l (i : Int)).f3 ∧ (rd_T66 l (i : Int)).f3 ≤ pieces) && !((l.take i).any (impl_TrainOk.l3 (rd_T66 l (i : Int))))
def impl_TrainOk.l0 (seats pieces : Int) (l : List S66) : Bool := decide (1 ≤ seats ∧ seats ≤ 60) && decide (1 ≤ pieces ∧ pieces ≤ 11) && decide (l.length ≤ 200) && (List.range l.length).all (impl_TrainOk.l1 seats pieces l)
def impl_TrainOk.f (a0_0 a0_1 : Int) (l0_2 : List S66) : Option Bool := some (impl_TrainOk.l0 a0_0 a0_1 l0_2)
def slices_Index_bool_bool.l0 : Nat → List Bool → Bool → Int → Int → Option (Int)
  | 0, _, _, _, _ => none
  | k + 1, x0, x1, x7, x8 => if x8 < x7 then (if 0 ≤ x8 then (if x8 < (x0.length : Int) then (if (x1 == (rdOf false x0 x8)) = true then (some x8) else (slices_Index_bool_bool.l0 k x0 x1 x7 (wrap64 (x8 + 1)))) else (none)) else (none)) else (some (-1))
def slices_Index_bool_bool.f (k : Nat) (l0 : List Bool) (a1 : Bool) : Option (Int) := slices_Index_bool_bool.l0 k l0 a1 (l0.length : Int) 0
def slices_Contains_bool_bool.f (k : Nat) (l0 : List Bool) (a1 : Bool) : Option (Bool) := (slices_Index_bool_bool.f k l0 a1).bind fun t171 => (some (decide (t171 ≥ 0)))
def impl_Train_freeSeats.l0 (l : List S66) (on off s : Nat) : Bool := (List.range' on (off - on)).any fun p => l.any (impl_TrainOk.l4 s p)
def impl_Train_freeSeats.l1 (l : List S66) (n on off : Nat) : List Int := ((List.range n).filter fun s => !(impl_Train_freeSeats.l0 l on off s)).map fun (s : Nat) => (s : Int)
def impl_Train_freeSeats.f (a0_0 a0_1 : Int) (l0_2 : List S66) (a1 a2 : Int) : Option (List Int) :=
  if impl_TrainOk.l0 a0_0 a0_1 l0_2 = true ∧ 0 ≤ a1 ∧ a1 < a2 ∧ a2 ≤ a0_1 then some (impl_Train_freeSeats.l1 l0_2 a0_0.toNat a1.toNat a2.toNat) else none
def impl_FreeSeats.f (a0_0 : Int) (a0_1 : Int) (l0_2 : List (S66)) (a1 : Int) (a2 : Int) : Option (List Int) := (impl_TrainOk.f a0_0 a0_1 l0_2).bind fun t173 => (if t173 = true then ((impl_Train_ride.f a0_0 a0_1 l0_2 a1 a2).bind fun t174 => (if t174 = true then ((impl_Train_freeSeats.f a0_0 a0_1 l0_2 a1 a2).bind fun t175 => (some t175)) else (some ([] : List Int)))) else (some ([] : List Int)))
def impl_has.l0 : Nat → Int → List Int → Int → Int → Option (Bool)
  | 0, _, _, _, _ => none
  | k + 1, x1, x7, x8, x9 => if x9 < x8 then (if 0 ≤ x9 then (if x9 < (x7.length : Int) then (if (rd x7 x9) = x1 then (some true) else (impl_has.l0 k x1 x7 x8 (wrap64 (x9 + 1)))) else (none)) else (none)) else (some false)
def impl_has.f (k : Nat) (l0 : List Int) (a1 : Int) : Option (Bool) := impl_has.l0 k a1 l0 (l0.length : Int) 0
def impl_Train_hole.l1 (l : List S66) (s : Nat) : Nat → Nat
  | 0 => 0
  | k + 1 => if l.any (impl_TrainOk.l4 s k) = true then k + 1 else impl_Train_hole.l1 l s k
def impl_Train_hole.l2 (l : List S66) (s P : Nat) : Nat → Nat
  | 0 => P
  | d + 1 => if l.any (impl_TrainOk.l4 s (P - (d + 1))) = true then P - (d + 1) else impl_Train_hole.l2 l s P d
def impl_Train_hole.f (a0_0 a0_1 : Int) (l0_2 : List S66) (a1 a2 a3 : Int) : Option Int :=
  if impl_TrainOk.l0 a0_0 a0_1 l0_2 = true ∧ (0 ≤ a1 ∧ a1 < a0_0) ∧ 0 ≤ a2 ∧ a2 ≤ a0_1 ∧ 0 ≤ a3 ∧ a3 ≤ a0_1 then
    some ((impl_Train_hole.l2 l0_2 a1.toNat a0_1.toNat (a0_1.toNat - a3.toNat) : Int) - (impl_Train_hole.l1 l0_2 a1.toNat a2.toNat : Int)) else none
def impl_Hole.f (k : Nat) (a0_0 : Int) (a0_1 : Int) (l0_2 : List (S66)) (a1 : Int) (a2 : Int) (a3 : Int) : Option (Int) := (impl_FreeSeats.f a0_0 a0_1 l0_2 a2 a3).bind fun t180 => ((impl_has.f k t180 a1).bind fun t183 => (if t183 = true then ((impl_Train_hole.f a0_0 a0_1 l0_2 a1 a2 a3).bind fun t184 => (some t184)) else (some 0)))
def laws_FnExactHole.f (k : Nat) (a0_0 : Int) (a0_1 : Int) (l0_2 : List (S89)) (a1 : Int) (a2 : Int) (a3 : Int) : Option (Bool) := (laws_szTrain.f a0_0 a0_1 l0_2 1048576).bind fun t186 => (if t186 < 0 then (some true) else ((laws_toTrain.f k a0_0 a0_1 l0_2).bind fun bt187 => ((spec_Hole.f k bt187.1 bt187.2.1 bt187.2.2 a1 a2 a3).bind fun t192 => ((laws_toTrain.f k a0_0 a0_1 l0_2).bind fun bt193 => ((impl_Hole.f k bt193.1 bt193.2.1 bt193.2.2 a1 a2 a3).bind fun t199 => (if t199 = t192 then ((laws_toTrain.f k a0_0 a0_1 l0_2).bind fun bt200 => ((laws_eqTrain.f k bt193.1 bt193.2.1 bt193.2.2 bt200.1 bt200.2.1 bt200.2.2).bind fun t205 => (if t205 = true then (some true) else (some false)))) else (some false)))))))
end Go.Proofs.Ytklikbjlfaednaa.P

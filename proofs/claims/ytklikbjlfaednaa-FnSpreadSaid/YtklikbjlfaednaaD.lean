/- The functions of the program as plain Lean functions, without memory and machine; written by a program of the session. -/
import Derived.Test.YtklikbjlfaednaaProg
import Derived.Test.YtklikbjlfaednaaV
namespace Go.Proofs.Ytklikbjlfaednaa.P
open Go.RowKit Go.Proofs.YtklikbjlfaednaaW.PrintWords Go.Proofs.YtklikbjlfaednaaW.PrintLast Go.Proofs.YtklikbjlfaednaaW.PrintMore
set_option linter.unusedVariables false

structure S66 where
  f0 : Int
  f1 : Int
  f2 : Int
  f3 : Int
def z66 : S66 := ⟨(0 : Int), (0 : Int), (0 : Int), (0 : Int)⟩
def rd_T66 (xs : List S66) (i : Int) : S66 := xs.getD i.toNat z66
structure S56 where
  f0 : Int
  f1 : Int
  f2 : Int
  f3 : Int
def z56 : S56 := ⟨(0 : Int), (0 : Int), (0 : Int), (0 : Int)⟩
def rd_T56 (xs : List S56) (i : Int) : S56 := xs.getD i.toNat z56
def impl_between.f (a0 : Int) (a1 : Int) (a2 : Int) : Option (Bool) := if a0 ≥ a1 then (some (decide (a0 ≤ a2))) else (some false)
def impl_Train_ride.f (a0_0 : Int) (a0_1 : Int) (l0_2 : List (S66)) (a1 : Int) (a2 : Int) : Option (Bool) := if 0 ≤ a1 then (if a1 < a2 then (some (decide (a2 ≤ a0_1))) else (some false)) else (some false)
def impl_TrainOk.l4 (s p : Nat) (b : S66) : Bool := decide (b.f1 = (s : Int)) && decide (b.f2 ≤ (p : Int)) && decide ((p : Int) < b.f3)
def impl_TrainOk.l3 (b o : S66) : Bool := decide (o.f1 = b.f1) && decide (o.f2 < b.f3) && decide (b.f2 < o.f3)
def impl_TrainOk.l1 (seats pieces : Int) (l : List S66) (i : Nat) : Bool :=
  decide ((if i = 0 then 0 else (rd_T66 l ((i - 1 : Nat) : Int)).f0) < (rd_T66 l (i : Int)).f0) && decide (0 ≤ (rd_T66 l (i : Int)).f1 ∧ (rd_T66 l (i : Int)).f1 ≤ seats - 1) &&
    decide (0 ≤ (rd_T66 l (i : Int)).f2 ∧ (rd_T66 l (i : Int)).f2 < (rd_T66 l (i : Int)).f3 ∧ (rd_T66 l (i : Int)).f3 ≤ pieces) && !((l.take i).any (impl_TrainOk.l3 (rd_T66 l (i : Int))))
def impl_TrainOk.l0 (seats pieces : Int) (l : List S66) : Bool := decide (1 ≤ seats ∧ seats ≤ 60) && decide (1 ≤ pieces ∧ pieces ≤ 11) && decide (l.length ≤ 200) && (List.range l.length).all (impl_TrainOk.l1 seats pieces l)
def impl_TrainOk.f (a0_0 a0_1 : Int) (l0_2 : List S66) : Option Bool := some (impl_TrainOk.l0 a0_0 a0_1 l0_2)
def slices_Index_bool_bool.l0 : Nat → List Bool → Bool → Int → Int → Option (Int)
  | 0, _, _, _, _ => none
  | k + 1, x0, x1, x7, x8 => if x8 < x7 then (if 0 ≤ x8 then (if x8 < (x0.length : Int) then (if (x1 == (rdOf false x0 x8)) = true then (some x8) else (slices_Index_bool_bool.l0 k x0 x1 x7 (wrap64 (x8 + 1)))) else (none)) else (none)) else (some (-1))
def slices_Index_bool_bool.f (k : Nat) (l0 : List Bool) (a1 : Bool) : Option (Int) := slices_Index_bool_bool.l0 k l0 a1 (l0.length : Int) 0
def slices_Contains_bool_bool.f (k : Nat) (l0 : List Bool) (a1 : Bool) : Option (Bool) := (slices_Index_bool_bool.f k l0 a1).bind fun t103 => (some (decide (t103 ≥ 0)))
def impl_Train_freeSeats.l0 (l : List S66) (on off s : Nat) : Bool := (List.range' on (off - on)).any fun p => l.any (impl_TrainOk.l4 s p)
def impl_Train_freeSeats.l1 (l : List S66) (n on off : Nat) : List Int := ((List.range n).filter fun s => !(impl_Train_freeSeats.l0 l on off s)).map fun (s : Nat) => (s : Int)
def impl_Train_freeSeats.f (a0_0 a0_1 : Int) (l0_2 : List S66) (a1 a2 : Int) : Option (List Int) :=
  if impl_TrainOk.l0 a0_0 a0_1 l0_2 = true ∧ 0 ≤ a1 ∧ a1 < a2 ∧ a2 ≤ a0_1 then some (impl_Train_freeSeats.l1 l0_2 a0_0.toNat a1.toNat a2.toNat) else none
def impl_FreeSeats.f (a0_0 : Int) (a0_1 : Int) (l0_2 : List (S66)) (a1 : Int) (a2 : Int) : Option (List Int) := (impl_TrainOk.f a0_0 a0_1 l0_2).bind fun t105 => (if t105 = true then ((impl_Train_ride.f a0_0 a0_1 l0_2 a1 a2).bind fun t106 => (if t106 = true then ((impl_Train_freeSeats.f a0_0 a0_1 l0_2 a1 a2).bind fun t107 => (some t107)) else (some ([] : List Int)))) else (some ([] : List Int)))
def spec_l01In.f (a0 : Int) (a1 : Int) (a2 : Int) : Option (Bool) := if a1 ≤ a0 then (some (decide (a0 ≤ a2))) else (some false)
mutual
def spec_TrainOk.j0 : Nat → Bool → Int → Int → List (S66) → Option (Bool)
  | 0, _, _, _, _ => none
  | k + 1, x22, x111000, x111001, x111002 => if x22 = true then (some false) else (spec_TrainOk.l0 k 0 x111000 x111001 x111002)
def spec_TrainOk.l0 : Nat → Int → Int → Int → List (S66) → Option (Bool)
  | 0, _, _, _, _ => none
  | k + 1, x3, x111000, x111001, x111002 => if x3 < (x111002.length : Int) then (if 0 ≤ x3 then (if ((rd_T66 x111002 x3).f0) ≤ 0 then (spec_TrainOk.j2 k x3 true x111000 x111001 x111002 ((rd_T66 x111002 x3).f0) ((rd_T66 x111002 x3).f1) ((rd_T66 x111002 x3).f2) ((rd_T66 x111002 x3).f3)) else (if x3 > 0 then (if 0 ≤ (wrap64 (x3 - 1)) then (if (wrap64 (x3 - 1)) < (x111002.length : Int) then (if ((rd_T66 x111002 (wrap64 (x3 - 1))).f0) ≥ ((rd_T66 x111002 x3).f0) then (spec_TrainOk.j2 k x3 true x111000 x111001 x111002 ((rd_T66 x111002 x3).f0) ((rd_T66 x111002 x3).f1) ((rd_T66 x111002 x3).f2) ((rd_T66 x111002 x3).f3)) else ((spec_l01In.f ((rd_T66 x111002 x3).f1) 0 (wrap64 (x111000 - 1))).bind fun t116 => (if t116 = true then ((spec_l01In.f ((rd_T66 x111002 x3).f3) 1 x111001).bind fun t117 => (if t117 = true then ((spec_l01In.f ((rd_T66 x111002 x3).f2) 0 (wrap64 (((rd_T66 x111002 x3).f3) - 1))).bind fun t118 => (spec_TrainOk.j2 k x3 (!t118) x111000 x111001 x111002 ((rd_T66 x111002 x3).f0) ((rd_T66 x111002 x3).f1) ((rd_T66 x111002 x3).f2) ((rd_T66 x111002 x3).f3))) else (spec_TrainOk.j2 k x3 true x111000 x111001 x111002 ((rd_T66 x111002 x3).f0) ((rd_T66 x111002 x3).f1) ((rd_T66 x111002 x3).f2) ((rd_T66 x111002 x3).f3)))) else (spec_TrainOk.j2 k x3 true x111000 x111001 x111002 ((rd_T66 x111002 x3).f0) ((rd_T66 x111002 x3).f1) ((rd_T66 x111002 x3).f2) ((rd_T66 x111002 x3).f3))))) else (none)) else (none)) else ((spec_l01In.f ((rd_T66 x111002 x3).f1) 0 (wrap64 (x111000 - 1))).bind fun t119 => (if t119 = true then ((spec_l01In.f ((rd_T66 x111002 x3).f3) 1 x111001).bind fun t120 => (if t120 = true then ((spec_l01In.f ((rd_T66 x111002 x3).f2) 0 (wrap64 (((rd_T66 x111002 x3).f3) - 1))).bind fun t121 => (spec_TrainOk.j2 k x3 (!t121) x111000 x111001 x111002 ((rd_T66 x111002 x3).f0) ((rd_T66 x111002 x3).f1) ((rd_T66 x111002 x3).f2) ((rd_T66 x111002 x3).f3))) else (spec_TrainOk.j2 k x3 true x111000 x111001 x111002 ((rd_T66 x111002 x3).f0) ((rd_T66 x111002 x3).f1) ((rd_T66 x111002 x3).f2) ((rd_T66 x111002 x3).f3)))) else (spec_TrainOk.j2 k x3 true x111000 x111001 x111002 ((rd_T66 x111002 x3).f0) ((rd_T66 x111002 x3).f1) ((rd_T66 x111002 x3).f2) ((rd_T66 x111002 x3).f3)))))) else (none)) else (some true)
def spec_TrainOk.j2 : Nat → Int → Bool → Int → Int → List (S66) → Int → Int → Int → Int → Option (Bool)
  | 0, _, _, _, _, _, _, _, _, _ => none
  | k + 1, x3, x79, x111000, x111001, x111002, x115000, x115001, x115002, x115003 => if x79 = true then (some false) else (spec_TrainOk.l1 k x3 0 x111000 x111001 x111002 x115000 x115001 x115002 x115003)
def spec_TrainOk.l1 : Nat → Int → Int → Int → Int → List (S66) → Int → Int → Int → Int → Option (Bool)
  | 0, _, _, _, _, _, _, _, _, _ => none
  | k + 1, x3, x5, x111000, x111001, x111002, x115000, x115001, x115002, x115003 => if x5 < x3 then (if 0 ≤ x5 then (if x5 < (x111002.length : Int) then (if ((rd_T66 x111002 x5).f1) = x115001 then (if ((rd_T66 x111002 x5).f2) < x115003 then (if x115002 < ((rd_T66 x111002 x5).f3) then (some false) else (spec_TrainOk.l1 k x3 (wrap64 (x5 + 1)) x111000 x111001 x111002 x115000 x115001 x115002 x115003)) else (spec_TrainOk.l1 k x3 (wrap64 (x5 + 1)) x111000 x111001 x111002 x115000 x115001 x115002 x115003)) else (spec_TrainOk.l1 k x3 (wrap64 (x5 + 1)) x111000 x111001 x111002 x115000 x115001 x115002 x115003)) else (none)) else (none)) else (spec_TrainOk.l0 k (wrap64 (x3 + 1)) x111000 x111001 x111002)
end
def spec_TrainOk.f (k : Nat) (a0_0 : Int) (a0_1 : Int) (l0_2 : List (S66)) : Option (Bool) := (spec_l01In.f a0_0 1 60).bind fun t111 => (if t111 = true then ((spec_l01In.f a0_1 1 11).bind fun t112 => (if t112 = true then (spec_TrainOk.j0 k (decide ((l0_2.length : Int) > 200)) a0_0 a0_1 l0_2) else (spec_TrainOk.j0 k true a0_0 a0_1 l0_2))) else (spec_TrainOk.j0 k true a0_0 a0_1 l0_2))
def spec_l14Asked.f (k : Nat) (a0_0 : Int) (a0_1 : Int) (l0_2 : List (S66)) (a1 : Int) (a2 : Int) : Option (Bool) := (spec_TrainOk.f k a0_0 a0_1 l0_2).bind fun t125 => (if t125 = true then ((spec_l01In.f a2 1 a0_1).bind fun t126 => (if t126 = true then ((spec_l01In.f a1 0 (wrap64 (a2 - 1))).bind fun t127 => (some t127)) else (some false))) else (some false))
def spec_l14Free.l0 : Nat → Int → Int → Int → Int → Int → List (S66) → Option (Bool)
  | 0, _, _, _, _, _, _ => none
  | k + 1, x1, x2, x7, x129000, x129001, x129002 => if x7 < (x129002.length : Int) then (if 0 ≤ x7 then (if ((rd_T66 x129002 x7).f1) = x1 then ((spec_l01In.f x2 ((rd_T66 x129002 x7).f2) (wrap64 (((rd_T66 x129002 x7).f3) - 1))).bind fun t132 => (if t132 = true then (some false) else (spec_l14Free.l0 k x1 x2 (wrap64 (x7 + 1)) x129000 x129001 x129002))) else (spec_l14Free.l0 k x1 x2 (wrap64 (x7 + 1)) x129000 x129001 x129002)) else (none)) else (some true)
def spec_l14Free.f (k : Nat) (a0_0 : Int) (a0_1 : Int) (l0_2 : List (S66)) (a1 : Int) (a2 : Int) : Option (Bool) := spec_l14Free.l0 k a1 a2 0 a0_0 a0_1 l0_2
mutual
def spec_Spread.l0 : Nat → Int → List Int → Int → Int → Int → List (S66) → Option (List Int)
  | 0, _, _, _, _, _, _ => none
  | k + 1, x2, x7, x8, x134000, x134001, x134002 => if x8 < x2 then (spec_Spread.l1 k x2 x7 x8 (-1) 0 0 x134000 x134001 x134002) else (some x7)
def spec_Spread.l1 : Nat → Int → List Int → Int → Int → Int → Int → Int → Int → List (S66) → Option (List Int)
  | 0, _, _, _, _, _, _, _, _, _ => none
  | k + 1, x2, x7, x8, x9, x10, x11, x134000, x134001, x134002 => if x11 < x134000 then (spec_Spread.l2 k x2 x7 x8 x9 x10 x11 0 x134000 x134001 x134002) else (if x9 < 0 then (some ([] : List Int)) else (spec_Spread.l3 k x2 x7 x8 x9 x10 0 x134000 x134001 x134002))
def spec_Spread.l2 : Nat → Int → List Int → Int → Int → Int → Int → Int → Int → Int → List (S66) → Option (List Int)
  | 0, _, _, _, _, _, _, _, _, _, _ => none
  | k + 1, x2, x7, x8, x9, x10, x11, x12, x134000, x134001, x134002 => if (wrap64 (x8 + x12)) < x2 then ((spec_l14Free.f k x134000 x134001 x134002 x11 (wrap64 (x8 + x12))).bind fun t138 => (if t138 = true then (spec_Spread.l2 k x2 x7 x8 x9 x10 x11 (wrap64 (x12 + 1)) x134000 x134001 x134002) else (if x12 > x10 then (spec_Spread.l1 k x2 x7 x8 x11 x12 (wrap64 (x11 + 1)) x134000 x134001 x134002) else (spec_Spread.l1 k x2 x7 x8 x9 x10 (wrap64 (x11 + 1)) x134000 x134001 x134002)))) else (if x12 > x10 then (spec_Spread.l1 k x2 x7 x8 x11 x12 (wrap64 (x11 + 1)) x134000 x134001 x134002) else (spec_Spread.l1 k x2 x7 x8 x9 x10 (wrap64 (x11 + 1)) x134000 x134001 x134002))
def spec_Spread.l3 : Nat → Int → List Int → Int → Int → Int → Int → Int → Int → List (S66) → Option (List Int)
  | 0, _, _, _, _, _, _, _, _, _ => none
  | k + 1, x2, x7, x8, x9, x10, x13, x134000, x134001, x134002 => if x13 < x10 then (if x7.length < 17592186044416 then (spec_Spread.l3 k x2 (x7 ++ [x9]) x8 x9 x10 (wrap64 (x13 + 1)) x134000 x134001 x134002) else (none)) else (spec_Spread.l0 k x2 x7 (wrap64 (x8 + x10)) x134000 x134001 x134002)
end
def spec_Spread.f (k : Nat) (a0_0 : Int) (a0_1 : Int) (l0_2 : List (S66)) (a1 : Int) (a2 : Int) : Option (List Int) := (spec_l14Asked.f k a0_0 a0_1 l0_2 a1 a2).bind fun t134 => (if t134 = true then (spec_Spread.l0 k a2 (([] : List Int)) a1 a0_0 a0_1 l0_2) else (some ([] : List Int)))
def impl_Spread.l0 (l : List S66) (s : Nat) : Nat → Nat → Nat
  | 0, _ => 0
  | d + 1, p => if l.any (impl_TrainOk.l4 s p) = true then 0 else impl_Spread.l0 l s d (p + 1) + 1
def impl_Spread.l1 (l : List S66) (p off : Nat) : Nat → Nat × Nat
  | 0 => (0, 0)
  | n + 1 => if (impl_Spread.l1 l p off n).2 < impl_Spread.l0 l n (off - p) p then (n, impl_Spread.l0 l n (off - p) p) else impl_Spread.l1 l p off n
def impl_Spread.l2 (l : List S66) (n off : Nat) : Nat → Nat → List Int → List Int
  | 0, _, acc => acc
  | k + 1, p, acc => if p < off then (if (impl_Spread.l1 l p off n).2 = 0 then [] else impl_Spread.l2 l n off k (p + (impl_Spread.l1 l p off n).2) (acc ++ List.replicate (impl_Spread.l1 l p off n).2 ((impl_Spread.l1 l p off n).1 : Int))) else acc
def impl_Spread.f (a0_0 a0_1 : Int) (l0_2 : List S66) (a1 a2 : Int) : Option (List Int) :=
  some (if impl_TrainOk.l0 a0_0 a0_1 l0_2 = true ∧ (0 ≤ a1 ∧ a1 < a2 ∧ a2 ≤ a0_1) then impl_Spread.l2 l0_2 a0_0.toNat a2.toNat (a2.toNat - a1.toNat) a1.toNat [] else [])
def laws_big.f (l0 : List Int) : Option (Bool) := some (decide ((l0.length : Int) > 1048576))
def spec_l01New.l0 : Nat → List Int → Int → Int → Option (List Int × Int × Int)
  | 0, _, _, _ => none
  | k + 1, x0, x3, x4 => if x4 < (x0.length : Int) then (if x4 < 4000 then (if 0 ≤ x4 then (spec_l01New.l0 k x0 (Go.bits .and .i64 (wrap64 ((wrap64 ((wrap64 (x3 * 137)) + (wrap64 (rd x0 x4)))) + 11)) 1073741823) (wrap64 (x4 + 1))) else (none)) else (some (x0, 0, x3))) else (some (x0, 0, x3))
def spec_l01New.f (k : Nat) (l0 : List Int) : Option (List Int × Int × Int) := spec_l01New.l0 k l0 (wrap64 (75075 + (l0.length : Int))) 0
def spec_l14Same.l0 : Nat → Int → Int → Int → List (S66) → Int → Int → List (S66) → Option (Int × Int × (List (S66)))
  | 0, _, _, _, _, _, _, _ => none
  | k + 1, x4, x146000, x146001, x146002, x148000, x148001, x148002 => if x4 < (x146002.length : Int) then (if 0 ≤ x4 then (if x148002.length < 4398046511104 then (spec_l14Same.l0 k (wrap64 (x4 + 1)) x146000 x146001 x146002 x148000 x148001 (x148002 ++ [(⟨(rd_T66 x146002 x4).f0, (rd_T66 x146002 x4).f1, (rd_T66 x146002 x4).f2, (rd_T66 x146002 x4).f3⟩ : S66)])) else (none)) else (none)) else (some (x148000, x148001, x148002))
def spec_l14Same.f (k : Nat) (a0_0 : Int) (a0_1 : Int) (l0_2 : List (S66)) : Option (Int × Int × (List (S66))) := spec_l14Same.l0 k 0 a0_0 a0_1 l0_2 a0_0 a0_1 ([] : List (S66))
mutual
def spec_l14Held.l0 : Nat → Int → Bool → Int → Int → Int → List (S66) → Int → Int → Int → Int → Int → Int → List (S66) → Option (Int × Int × (List (S66)))
  | 0, _, _, _, _, _, _, _, _, _, _, _, _, _ => none
  | k + 1, x1, x8, x9, x153000, x153001, x153002, x154000, x154001, x154002, x154003, x156000, x156001, x156002 => if x9 < (x153002.length : Int) then (if x8 = true then (spec_l14Held.j1 k x1 x8 x9 false x153000 x153001 x153002 x154000 x154001 x154002 x154003 x156000 x156001 x156002) else (if 0 ≤ x9 then (spec_l14Held.j1 k x1 x8 x9 (decide (((rd_T66 x153002 x9).f0) > x154000)) x153000 x153001 x153002 x154000 x154001 x154002 x154003 x156000 x156001 x156002) else (none))) else (if x8 = true then (some (x156000, x156001, x156002)) else (if x156002.length < 4398046511104 then (some (x156000, x156001, (x156002 ++ [(⟨x154000, x154001, x154002, x154003⟩ : S66)]))) else (none)))
def spec_l14Held.j1 : Nat → Int → Bool → Int → Bool → Int → Int → List (S66) → Int → Int → Int → Int → Int → Int → List (S66) → Option (Int × Int × (List (S66)))
  | 0, _, _, _, _, _, _, _, _, _, _, _, _, _, _ => none
  | k + 1, x1, x8, x9, x37, x153000, x153001, x153002, x154000, x154001, x154002, x154003, x156000, x156001, x156002 => if x37 = true then (if x156002.length < 4398046511104 then ((some (x156002 ++ [(⟨x154000, x154001, x154002, x154003⟩ : S66)] : List (S66))).bind fun y160 => (if 0 ≤ x9 then (if x9 < (x153002.length : Int) then (if ((rd_T66 x153002 x9).f0) = x1 then (spec_l14Held.l0 k x1 true (wrap64 (x9 + 1)) x153000 x153001 x153002 x154000 x154001 x154002 x154003 x156000 x156001 y160) else (if y160.length < 4398046511104 then (spec_l14Held.l0 k x1 true (wrap64 (x9 + 1)) x153000 x153001 x153002 x154000 x154001 x154002 x154003 x156000 x156001 (y160 ++ [(⟨(rd_T66 x153002 x9).f0, (rd_T66 x153002 x9).f1, (rd_T66 x153002 x9).f2, (rd_T66 x153002 x9).f3⟩ : S66)])) else (none))) else (none)) else (none))) else (none)) else (if 0 ≤ x9 then (if x9 < (x153002.length : Int) then (if ((rd_T66 x153002 x9).f0) = x1 then (spec_l14Held.l0 k x1 x8 (wrap64 (x9 + 1)) x153000 x153001 x153002 x154000 x154001 x154002 x154003 x156000 x156001 x156002) else (if x156002.length < 4398046511104 then (spec_l14Held.l0 k x1 x8 (wrap64 (x9 + 1)) x153000 x153001 x153002 x154000 x154001 x154002 x154003 x156000 x156001 (x156002 ++ [(⟨(rd_T66 x153002 x9).f0, (rd_T66 x153002 x9).f1, (rd_T66 x153002 x9).f2, (rd_T66 x153002 x9).f3⟩ : S66)])) else (none))) else (none)) else (none))
end
def spec_l14Held.f (k : Nat) (a0_0 : Int) (a0_1 : Int) (l0_2 : List (S66)) (a1 : Int) (a2_0 : Int) (a2_1 : Int) (a2_2 : Int) (a2_3 : Int) : Option (Int × Int × (List (S66))) := spec_l14Held.l0 k a1 (a2_0 == 0) 0 a0_0 a0_1 l0_2 a2_0 a2_1 a2_2 a2_3 a0_0 a0_1 ([] : List (S66))
def spec_Unbook.l0 : Nat → Int → Int → Int → Int → List (S66) → Option (Int × Int × (List (S66)) × Bool)
  | 0, _, _, _, _, _ => none
  | k + 1, x1, x6, x174000, x174001, x174002 => if x6 < (x174002.length : Int) then (if 0 ≤ x6 then (if ((rd_T66 x174002 x6).f0) = x1 then ((spec_l14Held.f k x174000 x174001 x174002 x1 0 0 0 0).bind fun bt182 => (some (bt182.1, bt182.2.1, bt182.2.2, true))) else (spec_Unbook.l0 k x1 (wrap64 (x6 + 1)) x174000 x174001 x174002)) else (none)) else ((spec_l14Same.f k x174000 x174001 x174002).bind fun bt187 => (some (bt187.1, bt187.2.1, bt187.2.2, false)))
def spec_Unbook.f (k : Nat) (a0_0 : Int) (a0_1 : Int) (l0_2 : List (S66)) (a1 : Int) : Option (Int × Int × (List (S66)) × Bool) := (spec_TrainOk.f k a0_0 a0_1 l0_2).bind fun t175 => (if t175 = true then (spec_Unbook.l0 k a1 0 a0_0 a0_1 l0_2) else ((spec_l14Same.f k a0_0 a0_1 l0_2).bind fun bt176 => (some (bt176.1, bt176.2.1, bt176.2.2, false))))
mutual
def spec_FreeSeats.l0 : Nat → Int → Int → List Int → Int → Int → Int → List (S66) → Option (List Int)
  | 0, _, _, _, _, _, _, _ => none
  | k + 1, x1, x2, x7, x8, x193000, x193001, x193002 => if x8 < x193000 then (spec_FreeSeats.l1 k x1 x2 x7 x8 true x1 x193000 x193001 x193002) else (some x7)
def spec_FreeSeats.l1 : Nat → Int → Int → List Int → Int → Bool → Int → Int → Int → List (S66) → Option (List Int)
  | 0, _, _, _, _, _, _, _, _, _ => none
  | k + 1, x1, x2, x7, x8, x9, x10, x193000, x193001, x193002 => if x10 < x2 then ((spec_l14Free.f k x193000 x193001 x193002 x8 x10).bind fun t197 => (if t197 = true then (spec_FreeSeats.l1 k x1 x2 x7 x8 x9 (wrap64 (x10 + 1)) x193000 x193001 x193002) else (spec_FreeSeats.l1 k x1 x2 x7 x8 false (wrap64 (x10 + 1)) x193000 x193001 x193002))) else (if x9 = true then (if x7.length < 17592186044416 then (spec_FreeSeats.l0 k x1 x2 (x7 ++ [x8]) (wrap64 (x8 + 1)) x193000 x193001 x193002) else (none)) else (spec_FreeSeats.l0 k x1 x2 x7 (wrap64 (x8 + 1)) x193000 x193001 x193002))
end
def spec_FreeSeats.f (k : Nat) (a0_0 : Int) (a0_1 : Int) (l0_2 : List (S66)) (a1 : Int) (a2 : Int) : Option (List Int) := (spec_l14Asked.f k a0_0 a0_1 l0_2 a1 a2).bind fun t193 => (if t193 = true then (spec_FreeSeats.l0 k a1 a2 (([] : List Int)) 0 a0_0 a0_1 l0_2) else (some ([] : List Int)))
def spec_l01Has.l0 : Nat → List Int → Int → Int → Option (Bool)
  | 0, _, _, _ => none
  | k + 1, x0, x1, x5 => if x5 < (x0.length : Int) then (if 0 ≤ x5 then (if (rd x0 x5) = x1 then (some true) else (spec_l01Has.l0 k x0 x1 (wrap64 (x5 + 1)))) else (none)) else (some false)
def spec_l01Has.f (k : Nat) (l0 : List Int) (a1 : Int) : Option (Bool) := spec_l01Has.l0 k l0 a1 0
mutual
def spec_Hole.j1 : Nat → Int → Int → Int → Int → Int → List (S66) → Option (Int)
  | 0, _, _, _, _, _, _ => none
  | k + 1, x1, x2, x3, x203000, x203001, x203002 => spec_Hole.l1 k x1 x2 x3 x203000 x203001 x203002
def spec_Hole.l1 : Nat → Int → Int → Int → Int → Int → List (S66) → Option (Int)
  | 0, _, _, _, _, _, _ => none
  | k + 1, x1, x2, x3, x203000, x203001, x203002 => if x3 < x203001 then ((spec_l14Free.f k x203000 x203001 x203002 x1 x3).bind fun t208 => (if t208 = true then (spec_Hole.l1 k x1 x2 (wrap64 (x3 + 1)) x203000 x203001 x203002) else (some (wrap64 (x3 - x2))))) else (some (wrap64 (x3 - x2)))
def spec_Hole.l0 : Nat → Int → Int → Int → Int → Int → List (S66) → Option (Int)
  | 0, _, _, _, _, _, _ => none
  | k + 1, x1, x2, x3, x203000, x203001, x203002 => if x2 > 0 then ((spec_l14Free.f k x203000 x203001 x203002 x1 (wrap64 (x2 - 1))).bind fun t207 => (if t207 = true then (spec_Hole.l0 k x1 (wrap64 (x2 - 1)) x3 x203000 x203001 x203002) else (spec_Hole.j1 k x1 x2 x3 x203000 x203001 x203002))) else (spec_Hole.j1 k x1 x2 x3 x203000 x203001 x203002)
end
def spec_Hole.f (k : Nat) (a0_0 : Int) (a0_1 : Int) (l0_2 : List (S66)) (a1 : Int) (a2 : Int) (a3 : Int) : Option (Int) := (spec_FreeSeats.f k a0_0 a0_1 l0_2 a2 a3).bind fun t203 => ((spec_l01Has.f k t203 a1).bind fun t206 => (if t206 = true then (spec_Hole.l0 k a1 a2 a3 a0_0 a0_1 l0_2) else (some 0)))
mutual
def spec_Book.j0 : Nat → Int → Int → Int → Bool → Int → Int → List (S66) → Int → Int → List (S66) → Option (Int × Int × (List (S66)) × Int)
  | 0, _, _, _, _, _, _, _, _, _, _ => none
  | k + 1, x1, x2, x3, x32, x210000, x210001, x210002, x217000, x217001, x217002 => if x32 = true then ((spec_l14Same.f k x210000 x210001 x210002).bind fun bt218 => (some (bt218.1, bt218.2.1, bt218.2.2, (-1)))) else (spec_Book.l0 k x1 x2 x3 0 x210000 x210001 x210002 x217000 x217001 x217002)
def spec_Book.l0 : Nat → Int → Int → Int → Int → Int → Int → List (S66) → Int → Int → List (S66) → Option (Int × Int × (List (S66)) × Int)
  | 0, _, _, _, _, _, _, _, _, _, _ => none
  | k + 1, x1, x2, x3, x11, x210000, x210001, x210002, x217000, x217001, x217002 => if x11 < (x210002.length : Int) then (if 0 ≤ x11 then (if ((rd_T66 x210002 x11).f0) = x1 then (some (x217000, x217001, x217002, (-1))) else (spec_Book.l0 k x1 x2 x3 (wrap64 (x11 + 1)) x210000 x210001 x210002 x217000 x217001 x217002)) else (none)) else ((spec_FreeSeats.f k x210000 x210001 x210002 x2 x3).bind fun t224 => (spec_Book.l1 k x1 x2 x3 t224 (-1) 0 x210000 x210001 x210002 x217000 x217001 x217002))
def spec_Book.l1 : Nat → Int → Int → Int → List Int → Int → Int → Int → Int → List (S66) → Int → Int → List (S66) → Option (Int × Int × (List (S66)) × Int)
  | 0, _, _, _, _, _, _, _, _, _, _, _, _ => none
  | k + 1, x1, x2, x3, x12, x13, x14, x210000, x210001, x210002, x217000, x217001, x217002 => if x14 < (x12.length : Int) then (if x13 < 0 then (if 0 ≤ x14 then (spec_Book.l1 k x1 x2 x3 x12 (rd x12 x14) (wrap64 (x14 + 1)) x210000 x210001 x210002 x217000 x217001 x217002) else (none)) else (if 0 ≤ x14 then ((spec_Hole.f k x210000 x210001 x210002 (rd x12 x14) x2 x3).bind fun t234 => ((spec_Hole.f k x210000 x210001 x210002 x13 x2 x3).bind fun t235 => (if t234 < t235 then (spec_Book.l1 k x1 x2 x3 x12 (rd x12 x14) (wrap64 (x14 + 1)) x210000 x210001 x210002 x217000 x217001 x217002) else (spec_Book.l1 k x1 x2 x3 x12 x13 (wrap64 (x14 + 1)) x210000 x210001 x210002 x217000 x217001 x217002)))) else (none))) else (if x13 < 0 then (some (x217000, x217001, x217002, (-1))) else ((spec_l14Held.f k x210000 x210001 x210002 0 x1 x13 x2 x3).bind fun bt227 => (some (bt227.1, bt227.2.1, bt227.2.2, x13))))
end
def spec_Book.f (k : Nat) (a0_0 : Int) (a0_1 : Int) (l0_2 : List (S66)) (a1 : Int) (a2 : Int) (a3 : Int) : Option (Int × Int × (List (S66)) × Int) := (spec_l14Held.f k a0_0 a0_1 l0_2 0 0 0 0 0).bind fun bt211 => ((spec_l14Asked.f k a0_0 a0_1 l0_2 a2 a3).bind fun t217 => (if t217 = true then (if a1 ≤ 0 then (spec_Book.j0 k a1 a2 a3 true a0_0 a0_1 l0_2 bt211.1 bt211.2.1 bt211.2.2) else (spec_Book.j0 k a1 a2 a3 (decide ((l0_2.length : Int) ≥ 200)) a0_0 a0_1 l0_2 bt211.1 bt211.2.1 bt211.2.2)) else (spec_Book.j0 k a1 a2 a3 true a0_0 a0_1 l0_2 bt211.1 bt211.2.1 bt211.2.2)))
mutual
def spec_PlaySales.j0 : Nat → List (S56) → Bool → Int → Int → List (S66) → Option (Int × Int × (List (S66)) × List Int)
  | 0, _, _, _, _, _ => none
  | k + 1, x1, x20, x238000, x238001, x238002 => if x20 = true then ((spec_l14Same.f k x238000 x238001 x238002).bind fun bt240 => (some (bt240.1, bt240.2.1, bt240.2.2, ([] : List Int)))) else ((spec_l14Same.f k x238000 x238001 x238002).bind fun bt245 => (spec_PlaySales.l0 k x1 (([] : List Int)) 0 bt245.1 bt245.2.1 bt245.2.2))
def spec_PlaySales.l0 : Nat → List (S56) → List Int → Int → Int → Int → List (S66) → Option (Int × Int × (List (S66)) × List Int)
  | 0, _, _, _, _, _, _ => none
  | k + 1, x1, x7, x8, x251000, x251001, x251002 => if x8 < (x1.length : Int) then (if 0 ≤ x8 then (if ((rd_T56 x1 x8).f0) = 0 then ((spec_Book.f k x251000 x251001 x251002 ((rd_T56 x1 x8).f1) ((rd_T56 x1 x8).f2) ((rd_T56 x1 x8).f3)).bind fun bt256 => (spec_PlaySales.j2 k x1 x7 x8 bt256.2.2.2 bt256.1 bt256.2.1 bt256.2.2.1 ((rd_T56 x1 x8).f0) ((rd_T56 x1 x8).f1) ((rd_T56 x1 x8).f2) ((rd_T56 x1 x8).f3))) else (spec_PlaySales.j2 k x1 x7 x8 (-1) x251000 x251001 x251002 ((rd_T56 x1 x8).f0) ((rd_T56 x1 x8).f1) ((rd_T56 x1 x8).f2) ((rd_T56 x1 x8).f3))) else (none)) else (some (x251000, x251001, x251002, x7))
def spec_PlaySales.j2 : Nat → List (S56) → List Int → Int → Int → Int → Int → List (S66) → Int → Int → Int → Int → Option (Int × Int × (List (S66)) × List Int)
  | 0, _, _, _, _, _, _, _, _, _, _, _ => none
  | k + 1, x1, x7, x8, x10, x251000, x251001, x251002, x256000, x256001, x256002, x256003 => if x256000 = 1 then ((spec_Unbook.f k x251000 x251001 x251002 x256001).bind fun bt262 => (if bt262.2.2.2 = true then (if x7.length < 17592186044416 then (spec_PlaySales.l0 k x1 (x7 ++ [0]) (wrap64 (x8 + 1)) bt262.1 bt262.2.1 bt262.2.2.1) else (none)) else (if x7.length < 17592186044416 then (spec_PlaySales.l0 k x1 (x7 ++ [x10]) (wrap64 (x8 + 1)) bt262.1 bt262.2.1 bt262.2.2.1) else (none)))) else (if x7.length < 17592186044416 then (spec_PlaySales.l0 k x1 (x7 ++ [x10]) (wrap64 (x8 + 1)) x251000 x251001 x251002) else (none))
end
def spec_PlaySales.f (k : Nat) (a0_0 : Int) (a0_1 : Int) (l0_2 : List (S66)) (l1 : List (S56)) : Option (Int × Int × (List (S66)) × List Int) := (spec_TrainOk.f k a0_0 a0_1 l0_2).bind fun t239 => (if t239 = true then (spec_PlaySales.j0 k l1 (decide ((l1.length : Int) > 200)) a0_0 a0_1 l0_2) else (spec_PlaySales.j0 k l1 true a0_0 a0_1 l0_2))
def spec_l01Byte.f (s0_0 : List Int) (s0_1 : Int) (s0_2 : Int) : Option (Int × Int × Int) := if s0_1 < (s0_0.length : Int) then (if 0 ≤ s0_1 then (some (Go.bits .and .i64 (wrap64 ((Go.bits .and .i64 (Go.bits .xor .i64 ((wrap64 ((wrap64 (s0_2 * 6364136223846793005)) + 1442695040888963407)) / 8589934592) ((wrap64 ((wrap64 (s0_2 * 6364136223846793005)) + 1442695040888963407)) / 35184372088832)) 255) + (wrap64 (rd s0_0 s0_1)))) 255, wrap64 (s0_1 + 1), wrap64 ((wrap64 (s0_2 * 6364136223846793005)) + 1442695040888963407))) else (none)) else (some (Go.bits .and .i64 (Go.bits .xor .i64 ((wrap64 ((wrap64 (s0_2 * 6364136223846793005)) + 1442695040888963407)) / 8589934592) ((wrap64 ((wrap64 (s0_2 * 6364136223846793005)) + 1442695040888963407)) / 35184372088832)) 255, s0_1, wrap64 ((wrap64 (s0_2 * 6364136223846793005)) + 1442695040888963407)))
def spec_l01Below.f (s0_0 : List Int) (s0_1 : Int) (s0_2 : Int) (a1 : Int) : Option (Int × Int × Int) := if a1 ≤ 0 then (some (0, s0_1, s0_2)) else (if a1 ≤ 256 then ((spec_l01Byte.f s0_0 s0_1 s0_2).bind fun bt279 => (if a1 = 0 then (none) else (some (Int.tmod bt279.1 a1, bt279.2.1, bt279.2.2)))) else ((spec_l01Byte.f s0_0 s0_1 s0_2).bind fun bt282 => ((spec_l01Byte.f s0_0 bt282.2.1 bt282.2.2).bind fun bt285 => ((spec_l01Byte.f s0_0 bt285.2.1 bt285.2.2).bind fun bt288 => (if a1 = 0 then (none) else (some (Int.tmod (wrap64 ((wrap64 ((wrap64 (bt282.1 * 65536)) + (wrap64 (bt285.1 * 256)))) + bt288.1)) a1, bt288.2.1, bt288.2.2)))))))
def spec_l01PickInt.f (s0_0 : List Int) (s0_1 : Int) (s0_2 : Int) (l1 : List Int) : Option (Int × Int × Int) := (spec_l01Below.f s0_0 s0_1 s0_2 (l1.length : Int)).bind fun bt291 => (if 0 ≤ bt291.1 then (if bt291.1 < (l1.length : Int) then (some (rd l1 bt291.1, bt291.2.1, bt291.2.2)) else (none)) else (none))
def spec_l01Once.f (s0_0 : List Int) (s0_1 : Int) (s0_2 : Int) (a1 : Int) : Option (Bool × Int × Int) := (spec_l01Below.f s0_0 s0_1 s0_2 a1).bind fun bt295 => (some ((bt295.1 == 0), bt295.2.1, bt295.2.2))
def spec_l14DrawSales.l0 : Nat → Int → List (S56) → Int → List Int → Int → Int → Option ((List (S56)) × Int × Int)
  | 0, _, _, _, _, _, _ => none
  | k + 1, x2, x7, x8, x1000, x1001, x1002 => if x8 > 0 then ((spec_l01Below.f x1000 x1001 x1002 x2).bind fun bt304 => ((spec_l01Below.f x1000 bt304.2.1 bt304.2.2 4).bind fun bt307 => ((spec_l01PickInt.f x1000 bt307.2.1 bt307.2.2 (([0, 0, 0, 1, 0, 0, 1, wrap64 (bt307.1 - 1)] : List Int))).bind fun bt313 => ((spec_l01Below.f x1000 bt313.2.1 bt313.2.2 14).bind fun bt316 => ((spec_l01Below.f x1000 bt316.2.1 bt316.2.2 (wrap64 (x2 - bt304.1))).bind fun bt319 => ((spec_l01Once.f x1000 bt319.2.1 bt319.2.2 30).bind fun bt323 => (if bt323.1 = true then ((spec_l01PickInt.f x1000 bt323.2.1 bt323.2.2 (([bt304.1, wrap64 (x2 + 1), (-1)] : List Int))).bind fun bt329 => (if x7.length < 4398046511104 then (spec_l14DrawSales.l0 k x2 (x7 ++ [(⟨bt313.1, wrap64 (1 + bt316.1), bt304.1, bt329.1⟩ : S56)]) (wrap64 (x8 - 1)) x1000 bt329.2.1 bt329.2.2) else (none))) else (if x7.length < 4398046511104 then (spec_l14DrawSales.l0 k x2 (x7 ++ [(⟨bt313.1, wrap64 (1 + bt316.1), bt304.1, wrap64 ((wrap64 (bt304.1 + 1)) + bt319.1)⟩ : S56)]) (wrap64 (x8 - 1)) x1000 bt323.2.1 bt323.2.2) else (none))))))))) else (some (x7, x1001, x1002))
def spec_l14DrawSales.f (k : Nat) (s0_0 : List Int) (s0_1 : Int) (s0_2 : Int) (a1 : Int) (a2 : Int) : Option ((List (S56)) × Int × Int) := (spec_l01Below.f s0_0 s0_1 s0_2 a1).bind fun bt301 => (spec_l14DrawSales.l0 k a2 (([] : List (S56))) bt301.1 s0_0 bt301.2.1 bt301.2.2)
def spec_l01Size.f (l0 : List Int) (a1 : Int) : Option (Int) := if (wrap64 (2 + (wrap64 ((l0.length : Int) / 16)))) > a1 then (some a1) else (some (wrap64 (2 + (wrap64 ((l0.length : Int) / 16)))))
def spec_l14DrawRight.f (k : Nat) (s0_0 : List Int) (s0_1 : Int) (s0_2 : Int) (l1 : List Int) : Option (Int × Int × (List (S66)) × Int × Int) := (spec_l01Below.f s0_0 s0_1 s0_2 4).bind fun bt339 => ((spec_l01Below.f s0_0 bt339.2.1 bt339.2.2 6).bind fun bt342 => ((spec_l01Size.f l1 16).bind fun t346 => ((spec_l14DrawSales.f k s0_0 bt342.2.1 bt342.2.2 (wrap64 (2 + t346)) (wrap64 (1 + bt342.1))).bind fun bt347 => ((spec_PlaySales.f k (wrap64 (1 + bt339.1)) (wrap64 (1 + bt342.1)) ([] : List (S66)) bt347.1).bind fun bt352 => (some (bt352.1, bt352.2.1, bt352.2.2.1, bt347.2.1, bt347.2.2))))))
def spec_DrawRightTrain.f (k : Nat) (l0 : List Int) : Option (Int × Int × (List (S66)) × (List (S56))) := (spec_l01New.f k l0).bind fun bt362 => ((spec_l14DrawRight.f k bt362.1 bt362.2.1 bt362.2.2 l0).bind fun bt366 => ((spec_l01Size.f l0 20).bind fun t374 => ((spec_l14DrawSales.f k bt362.1 bt366.2.2.2.1 bt366.2.2.2.2 (wrap64 (2 + t374)) bt366.2.1).bind fun bt375 => (some (bt366.1, bt366.2.1, bt366.2.2.1, bt375.1)))))
def laws_at.f (l0 : List Int) (a1 : Int) : Option (Int) := if a1 < (l0.length : Int) then (if 0 ≤ a1 then (some (wrap64 (rd l0 a1))) else (none)) else (some (Int.tmod (wrap64 ((wrap64 (a1 * 11)) + (wrap64 ((l0.length : Int) * 3)))) 256))
def laws_sameInts.l0 : Nat → List Int → List Int → Int → Option (Bool)
  | 0, _, _, _ => none
  | k + 1, x0, x1, x5 => if x5 < (x0.length : Int) then (if 0 ≤ x5 then (if x5 < (x1.length : Int) then (if (rd x0 x5) = (rd x1 x5) then (laws_sameInts.l0 k x0 x1 (wrap64 (x5 + 1))) else (some false)) else (none)) else (none)) else (some true)
def laws_sameInts.f (k : Nat) (l0 : List Int) (l1 : List Int) : Option (Bool) := if (l0.length : Int) = (l1.length : Int) then (laws_sameInts.l0 k l0 l1 0) else (some false)
def laws_within.l0 : Nat → List Int → Int → Int → Option (Bool)
  | 0, _, _, _ => none
  | k + 1, x0, x1, x5 => if x5 < (x0.length : Int) then (if 0 ≤ x5 then (if (rd x0 x5) = x1 then (some true) else (laws_within.l0 k x0 x1 (wrap64 (x5 + 1)))) else (none)) else (some false)
def laws_within.f (k : Nat) (l0 : List Int) (a1 : Int) : Option (Bool) := laws_within.l0 k l0 a1 0
mutual
def laws_FnSpread.l0 : Nat → Int → Int → Int → Int → List (S66) → Option (Bool)
  | 0, _, _, _, _, _ => none
  | k + 1, x6, x8, x394000, x394001, x394002 => if x8 < x6 then ((impl_FreeSeats.f x394000 x394001 x394002 x8 (wrap64 (x8 + 1))).bind fun t403 => (if (t403.length : Int) = 0 then (some true) else (laws_FnSpread.l0 k x6 (wrap64 (x8 + 1)) x394000 x394001 x394002))) else (some false)
def laws_FnSpread.l1 : Nat → Int → Int → List Int → Bool → Int → Int → Int → List (S66) → Option (Bool)
  | 0, _, _, _, _, _, _, _, _ => none
  | k + 1, x5, x6, x7, x9, x10, x394000, x394001, x394002 => if x10 < (x7.length : Int) then ((impl_FreeSeats.f x394000 x394001 x394002 (wrap64 (x5 + x10)) (wrap64 ((wrap64 (x5 + x10)) + 1))).bind fun t409 => (if 0 ≤ x10 then ((laws_within.f k t409 (rd x7 x10)).bind fun t413 => (if t413 = true then (if 0 < (x7.length : Int) then (if (rd x7 x10) = (rd x7 0) then (laws_FnSpread.l1 k x5 x6 x7 x9 (wrap64 (x10 + 1)) x394000 x394001 x394002) else (laws_FnSpread.l1 k x5 x6 x7 false (wrap64 (x10 + 1)) x394000 x394001 x394002)) else (none)) else (some false))) else (none))) else ((impl_FreeSeats.f x394000 x394001 x394002 x5 x6).bind fun t406 => (some (x9 == (decide ((t406.length : Int) > 0)))))
end
def laws_FnSpread.f (k : Nat) (l0 : List Int) : Option (Bool) := (laws_big.f l0).bind fun t384 => (if t384 = true then (some true) else ((spec_DrawRightTrain.f k l0).bind fun bt385 => ((laws_at.f l0 3).bind fun t394 => (if bt385.2.1 = 0 then (none) else ((laws_at.f l0 4).bind fun t395 => (if (wrap64 (bt385.2.1 - (Int.tmod t394 bt385.2.1))) = 0 then (none) else ((impl_Spread.f bt385.1 bt385.2.1 bt385.2.2.1 (Int.tmod t394 bt385.2.1) (wrap64 ((wrap64 ((Int.tmod t394 bt385.2.1) + 1)) + (Int.tmod t395 (wrap64 (bt385.2.1 - (Int.tmod t394 bt385.2.1))))))).bind fun t396 => ((spec_Spread.f k bt385.1 bt385.2.1 bt385.2.2.1 (Int.tmod t394 bt385.2.1) (wrap64 ((wrap64 ((Int.tmod t394 bt385.2.1) + 1)) + (Int.tmod t395 (wrap64 (bt385.2.1 - (Int.tmod t394 bt385.2.1))))))).bind fun t399 => ((laws_sameInts.f k t396 t399).bind fun t402 => (if t402 = true then (if (t396.length : Int) = 0 then (laws_FnSpread.l0 k (wrap64 ((wrap64 ((Int.tmod t394 bt385.2.1) + 1)) + (Int.tmod t395 (wrap64 (bt385.2.1 - (Int.tmod t394 bt385.2.1)))))) (Int.tmod t394 bt385.2.1) bt385.1 bt385.2.1 bt385.2.2.1) else (if (t396.length : Int) = (wrap64 ((wrap64 ((wrap64 ((Int.tmod t394 bt385.2.1) + 1)) + (Int.tmod t395 (wrap64 (bt385.2.1 - (Int.tmod t394 bt385.2.1)))))) - (Int.tmod t394 bt385.2.1))) then (laws_FnSpread.l1 k (Int.tmod t394 bt385.2.1) (wrap64 ((wrap64 ((Int.tmod t394 bt385.2.1) + 1)) + (Int.tmod t395 (wrap64 (bt385.2.1 - (Int.tmod t394 bt385.2.1)))))) t396 true 0 bt385.1 bt385.2.1 bt385.2.2.1) else (some false))) else (some false)))))))))))
def laws_FnSpread.Pure : Prop := ∀ (l0 : List Int), l0.length ≤ maxLen → l0.length * 1 ≤ 140737488351232 → (∀ x ∈ l0, (Lit.int .u8 x).wf = true) → ∃ k, laws_FnSpread.f k l0 = some true
end Go.Proofs.Ytklikbjlfaednaa.P

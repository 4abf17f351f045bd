/- The functions of the program as plain Lean functions, without memory and machine; written by a program of the session. -/
import Derived.Test.YtklikbjlfaednaaProg
import Derived.Test.YtklikbjlfaednaaV
namespace Go.Proofs.Ytklikbjlfaednaa.P
open Go.RowKit Go.Proofs.YtklikbjlfaednaaW.PrintWords Go.Proofs.YtklikbjlfaednaaW.PrintLast Go.Proofs.YtklikbjlfaednaaW.PrintMore
set_option linter.unusedVariables false

structure S66 where
  f0 : Int
  f1 : Int
  f2 : Int
  f3 : Int
def z66 : S66 := ⟨(0 : Int), (0 : Int), (0 : Int), (0 : Int)⟩
def rd_T66 (xs : List S66) (i : Int) : S66 := xs.getD i.toNat z66
structure S56 where
  f0 : Int
  f1 : Int
  f2 : Int
  f3 : Int
def z56 : S56 := ⟨(0 : Int), (0 : Int), (0 : Int), (0 : Int)⟩
def rd_T56 (xs : List S56) (i : Int) : S56 := xs.getD i.toNat z56
def impl_between.f (a0 : Int) (a1 : Int) (a2 : Int) : Option (Bool) := if a0 ≥ a1 then (some (decide (a0 ≤ a2))) else (some false)
def impl_Train_ride.f (a0_0 : Int) (a0_1 : Int) (l0_2 : List (S66)) (a1 : Int) (a2 : Int) : Option (Bool) := if 0 ≤ a1 then (if a1 < a2 then (some (decide (a2 ≤ a0_1))) else (some false)) else (some false)
def impl_TrainOk.l4 (s p : Nat) (b : S66) : Bool := decide (b.f1 = (s : Int)) && decide (b.f2 ≤ (p : Int)) && decide ((p : Int) < b.f3)
def impl_TrainOk.l3 (b o : S66) : Bool := decide (o.f1 = b.f1) && decide (o.f2 < b.f3) && decide (b.f2 < o.f3)
def impl_TrainOk.l1 (seats pieces : Int) (l : List S66) (i : Nat) : Bool :=
  decide ((if i = 0 then 0 else (rd_T66 l ((i - 1 : Nat) : Int)).f0) < (rd_T66 l (i : Int)).f0) && decide (0 ≤ (rd_T66 l (i : Int)).f1 ∧ (rd_T66 l (i : Int)).f1 ≤ seats - 1) &&
    decide (0 ≤ (rd_T66 l (i : Int)).f2 ∧ (rd_T66 l (i : Int)).f2 < (rd_T66 l (i : Int)).f3 ∧ (rd_T66 l (i : Int)).f3 ≤ pieces) && !((l.take i).any (impl_TrainOk.l3 (rd_T66 l (i : Int))))
def impl_TrainOk.l0 (seats pieces : Int) (l : List S66) : Bool := decide (1 ≤ seats ∧ seats ≤ 60) && decide (1 ≤ pieces ∧ pieces ≤ 11) && decide (l.length ≤ 200) && (List.range l.length).all (impl_TrainOk.l1 seats pieces l)
def impl_TrainOk.f (a0_0 a0_1 : Int) (l0_2 : List S66) : Option Bool := some (impl_TrainOk.l0 a0_0 a0_1 l0_2)
def slices_Index_bool_bool.l0 : Nat → List Bool → Bool → Int → Int → Option (Int)
  | 0, _, _, _, _ => none
  | k + 1, x0, x1, x7, x8 => if x8 < x7 then (if 0 ≤ x8 then (if x8 < (x0.length : Int) then (if (x1 == (rdOf false x0 x8)) = true then (some x8) else (slices_Index_bool_bool.l0 k x0 x1 x7 (wrap64 (x8 + 1)))) else (none)) else (none)) else (some (-1))
def slices_Index_bool_bool.f (k : Nat) (l0 : List Bool) (a1 : Bool) : Option (Int) := slices_Index_bool_bool.l0 k l0 a1 (l0.length : Int) 0
def slices_Contains_bool_bool.f (k : Nat) (l0 : List Bool) (a1 : Bool) : Option (Bool) := (slices_Index_bool_bool.f k l0 a1).bind fun t103 => (some (decide (t103 ≥ 0)))
def impl_Train_freeSeats.l0 (l : List S66) (on off s : Nat) : Bool := (List.range' on (off - on)).any fun p => l.any (impl_TrainOk.l4 s p)
def impl_Train_freeSeats.l1 (l : List S66) (n on off : Nat) : List Int := ((List.range n).filter fun s => !(impl_Train_freeSeats.l0 l on off s)).map fun (s : Nat) => (s : Int)
def impl_Train_freeSeats.f (a0_0 a0_1 : Int) (l0_2 : List S66) (a1 a2 : Int) : Option (List Int) :=
  if impl_TrainOk.l0 a0_0 a0_1 l0_2 = true ∧ 0 ≤ a1 ∧ a1 < a2 ∧ a2 ≤ a0_1 then some (impl_Train_freeSeats.l1 l0_2 a0_0.toNat a1.toNat a2.toNat) else none
def impl_FreeSeats.f (a0_0 : Int) (a0_1 : Int) (l0_2 : List (S66)) (a1 : Int) (a2 : Int) : Option (List Int) := (impl_TrainOk.f a0_0 a0_1 l0_2).bind fun t105 => (if t105 = true then ((impl_Train_ride.f a0_0 a0_1 l0_2 a1 a2).bind fun t106 => (if t106 = true then ((impl_Train_freeSeats.f a0_0 a0_1 l0_2 a1 a2).bind fun t107 => (some t107)) else (some ([] : List Int)))) else (some ([] : List Int)))
def impl_has.l0 : Nat → Int → List Int → Int → Int → Option (Bool)
  | 0, _, _, _, _ => none
  | k + 1, x1, x7, x8, x9 => if x9 < x8 then (if 0 ≤ x9 then (if x9 < (x7.length : Int) then (if (rd x7 x9) = x1 then (some true) else (impl_has.l0 k x1 x7 x8 (wrap64 (x9 + 1)))) else (none)) else (none)) else (some false)
def impl_has.f (k : Nat) (l0 : List Int) (a1 : Int) : Option (Bool) := impl_has.l0 k a1 l0 (l0.length : Int) 0
def impl_Train_hole.l1 (l : List S66) (s : Nat) : Nat → Nat
  | 0 => 0
  | k + 1 => if l.any (impl_TrainOk.l4 s k) = true then k + 1 else impl_Train_hole.l1 l s k
def impl_Train_hole.l2 (l : List S66) (s P : Nat) : Nat → Nat
  | 0 => P
  | d + 1 => if l.any (impl_TrainOk.l4 s (P - (d + 1))) = true then P - (d + 1) else impl_Train_hole.l2 l s P d
def impl_Train_hole.f (a0_0 a0_1 : Int) (l0_2 : List S66) (a1 a2 a3 : Int) : Option Int :=
  if impl_TrainOk.l0 a0_0 a0_1 l0_2 = true ∧ (0 ≤ a1 ∧ a1 < a0_0) ∧ 0 ≤ a2 ∧ a2 ≤ a0_1 ∧ 0 ≤ a3 ∧ a3 ≤ a0_1 then
    some ((impl_Train_hole.l2 l0_2 a1.toNat a0_1.toNat (a0_1.toNat - a3.toNat) : Int) - (impl_Train_hole.l1 l0_2 a1.toNat a2.toNat : Int)) else none
def impl_Hole.f (k : Nat) (a0_0 : Int) (a0_1 : Int) (l0_2 : List (S66)) (a1 : Int) (a2 : Int) (a3 : Int) : Option (Int) := (impl_FreeSeats.f a0_0 a0_1 l0_2 a2 a3).bind fun t112 => ((impl_has.f k t112 a1).bind fun t115 => (if t115 = true then ((impl_Train_hole.f a0_0 a0_1 l0_2 a1 a2 a3).bind fun t116 => (some t116)) else (some 0)))
def impl_cloneTrain.f (a0_0 : Int) (a0_1 : Int) (l0_2 : List (S66)) : Option (Int × Int × (List (S66))) := (some (([] : List (S66)) : List (S66))).bind fun y119 => (if y119.length + l0_2.length < 4398046511104 then (some (a0_0, a0_1, (y119 ++ l0_2))) else (none))
def impl_Unbook.l1 (l : List S66) (id : Int) : Int := if l.findIdx (fun o => o.f0 == id) < l.length then (l.findIdx (fun o => o.f0 == id) : Int) else -1
def impl_Unbook.l0 (l : List S66) (id : Int) : List S66 := if impl_Unbook.l1 l id < 0 then l else l.eraseIdx (impl_Unbook.l1 l id).toNat
def impl_Unbook.f (a0_0 a0_1 : Int) (l0_2 : List S66) (a1 : Int) : Option (Int × Int × List S66 × Bool) :=
  if l0_2.length < 4398046511104 then some (a0_0, a0_1, if impl_TrainOk.l0 a0_0 a0_1 l0_2 = true then impl_Unbook.l0 l0_2 a1 else l0_2, impl_TrainOk.l0 a0_0 a0_1 l0_2 && decide (0 ≤ impl_Unbook.l1 l0_2 a1)) else none
def laws_big.f (l0 : List Int) : Option (Bool) := some (decide ((l0.length : Int) > 1048576))
def spec_l01New.l0 : Nat → List Int → Int → Int → Option (List Int × Int × Int)
  | 0, _, _, _ => none
  | k + 1, x0, x3, x4 => if x4 < (x0.length : Int) then (if x4 < 4000 then (if 0 ≤ x4 then (spec_l01New.l0 k x0 (Go.bits .and .i64 (wrap64 ((wrap64 ((wrap64 (x3 * 137)) + (wrap64 (rd x0 x4)))) + 11)) 1073741823) (wrap64 (x4 + 1))) else (none)) else (some (x0, 0, x3))) else (some (x0, 0, x3))
def spec_l01New.f (k : Nat) (l0 : List Int) : Option (List Int × Int × Int) := spec_l01New.l0 k l0 (wrap64 (75075 + (l0.length : Int))) 0
def spec_l01In.f (a0 : Int) (a1 : Int) (a2 : Int) : Option (Bool) := if a1 ≤ a0 then (some (decide (a0 ≤ a2))) else (some false)
mutual
def spec_TrainOk.j0 : Nat → Bool → Int → Int → List (S66) → Option (Bool)
  | 0, _, _, _, _ => none
  | k + 1, x22, x129000, x129001, x129002 => if x22 = true then (some false) else (spec_TrainOk.l0 k 0 x129000 x129001 x129002)
def spec_TrainOk.l0 : Nat → Int → Int → Int → List (S66) → Option (Bool)
  | 0, _, _, _, _ => none
  | k + 1, x3, x129000, x129001, x129002 => if x3 < (x129002.length : Int) then (if 0 ≤ x3 then (if ((rd_T66 x129002 x3).f0) ≤ 0 then (spec_TrainOk.j2 k x3 true x129000 x129001 x129002 ((rd_T66 x129002 x3).f0) ((rd_T66 x129002 x3).f1) ((rd_T66 x129002 x3).f2) ((rd_T66 x129002 x3).f3)) else (if x3 > 0 then (if 0 ≤ (wrap64 (x3 - 1)) then (if (wrap64 (x3 - 1)) < (x129002.length : Int) then (if ((rd_T66 x129002 (wrap64 (x3 - 1))).f0) ≥ ((rd_T66 x129002 x3).f0) then (spec_TrainOk.j2 k x3 true x129000 x129001 x129002 ((rd_T66 x129002 x3).f0) ((rd_T66 x129002 x3).f1) ((rd_T66 x129002 x3).f2) ((rd_T66 x129002 x3).f3)) else ((spec_l01In.f ((rd_T66 x129002 x3).f1) 0 (wrap64 (x129000 - 1))).bind fun t134 => (if t134 = true then ((spec_l01In.f ((rd_T66 x129002 x3).f3) 1 x129001).bind fun t135 => (if t135 = true then ((spec_l01In.f ((rd_T66 x129002 x3).f2) 0 (wrap64 (((rd_T66 x129002 x3).f3) - 1))).bind fun t136 => (spec_TrainOk.j2 k x3 (!t136) x129000 x129001 x129002 ((rd_T66 x129002 x3).f0) ((rd_T66 x129002 x3).f1) ((rd_T66 x129002 x3).f2) ((rd_T66 x129002 x3).f3))) else (spec_TrainOk.j2 k x3 true x129000 x129001 x129002 ((rd_T66 x129002 x3).f0) ((rd_T66 x129002 x3).f1) ((rd_T66 x129002 x3).f2) ((rd_T66 x129002 x3).f3)))) else (spec_TrainOk.j2 k x3 true x129000 x129001 x129002 ((rd_T66 x129002 x3).f0) ((rd_T66 x129002 x3).f1) ((rd_T66 x129002 x3).f2) ((rd_T66 x129002 x3).f3))))) else (none)) else (none)) else ((spec_l01In.f ((rd_T66 x129002 x3).f1) 0 (wrap64 (x129000 - 1))).bind fun t137 => (if t137 = true then ((spec_l01In.f ((rd_T66 x129002 x3).f3) 1 x129001).bind fun t138 => (if t138 = true then ((spec_l01In.f ((rd_T66 x129002 x3).f2) 0 (wrap64 (((rd_T66 x129002 x3).f3) - 1))).bind fun t139 => (spec_TrainOk.j2 k x3 (!t139) x129000 x129001 x129002 ((rd_T66 x129002 x3).f0) ((rd_T66 x129002 x3).f1) ((rd_T66 x129002 x3).f2) ((rd_T66 x129002 x3).f3))) else (spec_TrainOk.j2 k x3 true x129000 x129001 x129002 ((rd_T66 x129002 x3).f0) ((rd_T66 x129002 x3).f1) ((rd_T66 x129002 x3).f2) ((rd_T66 x129002 x3).f3)))) else (spec_TrainOk.j2 k x3 true x129000 x129001 x129002 ((rd_T66 x129002 x3).f0) ((rd_T66 x129002 x3).f1) ((rd_T66 x129002 x3).f2) ((rd_T66 x129002 x3).f3)))))) else (none)) else (some true)
def spec_TrainOk.j2 : Nat → Int → Bool → Int → Int → List (S66) → Int → Int → Int → Int → Option (Bool)
  | 0, _, _, _, _, _, _, _, _, _ => none
  | k + 1, x3, x79, x129000, x129001, x129002, x133000, x133001, x133002, x133003 => if x79 = true then (some false) else (spec_TrainOk.l1 k x3 0 x129000 x129001 x129002 x133000 x133001 x133002 x133003)
def spec_TrainOk.l1 : Nat → Int → Int → Int → Int → List (S66) → Int → Int → Int → Int → Option (Bool)
  | 0, _, _, _, _, _, _, _, _, _ => none
  | k + 1, x3, x5, x129000, x129001, x129002, x133000, x133001, x133002, x133003 => if x5 < x3 then (if 0 ≤ x5 then (if x5 < (x129002.length : Int) then (if ((rd_T66 x129002 x5).f1) = x133001 then (if ((rd_T66 x129002 x5).f2) < x133003 then (if x133002 < ((rd_T66 x129002 x5).f3) then (some false) else (spec_TrainOk.l1 k x3 (wrap64 (x5 + 1)) x129000 x129001 x129002 x133000 x133001 x133002 x133003)) else (spec_TrainOk.l1 k x3 (wrap64 (x5 + 1)) x129000 x129001 x129002 x133000 x133001 x133002 x133003)) else (spec_TrainOk.l1 k x3 (wrap64 (x5 + 1)) x129000 x129001 x129002 x133000 x133001 x133002 x133003)) else (none)) else (none)) else (spec_TrainOk.l0 k (wrap64 (x3 + 1)) x129000 x129001 x129002)
end
def spec_TrainOk.f (k : Nat) (a0_0 : Int) (a0_1 : Int) (l0_2 : List (S66)) : Option (Bool) := (spec_l01In.f a0_0 1 60).bind fun t129 => (if t129 = true then ((spec_l01In.f a0_1 1 11).bind fun t130 => (if t130 = true then (spec_TrainOk.j0 k (decide ((l0_2.length : Int) > 200)) a0_0 a0_1 l0_2) else (spec_TrainOk.j0 k true a0_0 a0_1 l0_2))) else (spec_TrainOk.j0 k true a0_0 a0_1 l0_2))
def spec_l14Same.l0 : Nat → Int → Int → Int → List (S66) → Int → Int → List (S66) → Option (Int × Int × (List (S66)))
  | 0, _, _, _, _, _, _, _ => none
  | k + 1, x4, x143000, x143001, x143002, x145000, x145001, x145002 => if x4 < (x143002.length : Int) then (if 0 ≤ x4 then (if x145002.length < 4398046511104 then (spec_l14Same.l0 k (wrap64 (x4 + 1)) x143000 x143001 x143002 x145000 x145001 (x145002 ++ [(⟨(rd_T66 x143002 x4).f0, (rd_T66 x143002 x4).f1, (rd_T66 x143002 x4).f2, (rd_T66 x143002 x4).f3⟩ : S66)])) else (none)) else (none)) else (some (x145000, x145001, x145002))
def spec_l14Same.f (k : Nat) (a0_0 : Int) (a0_1 : Int) (l0_2 : List (S66)) : Option (Int × Int × (List (S66))) := spec_l14Same.l0 k 0 a0_0 a0_1 l0_2 a0_0 a0_1 ([] : List (S66))
mutual
def spec_l14Held.l0 : Nat → Int → Bool → Int → Int → Int → List (S66) → Int → Int → Int → Int → Int → Int → List (S66) → Option (Int × Int × (List (S66)))
  | 0, _, _, _, _, _, _, _, _, _, _, _, _, _ => none
  | k + 1, x1, x8, x9, x150000, x150001, x150002, x151000, x151001, x151002, x151003, x153000, x153001, x153002 => if x9 < (x150002.length : Int) then (if x8 = true then (spec_l14Held.j1 k x1 x8 x9 false x150000 x150001 x150002 x151000 x151001 x151002 x151003 x153000 x153001 x153002) else (if 0 ≤ x9 then (spec_l14Held.j1 k x1 x8 x9 (decide (((rd_T66 x150002 x9).f0) > x151000)) x150000 x150001 x150002 x151000 x151001 x151002 x151003 x153000 x153001 x153002) else (none))) else (if x8 = true then (some (x153000, x153001, x153002)) else (if x153002.length < 4398046511104 then (some (x153000, x153001, (x153002 ++ [(⟨x151000, x151001, x151002, x151003⟩ : S66)]))) else (none)))
def spec_l14Held.j1 : Nat → Int → Bool → Int → Bool → Int → Int → List (S66) → Int → Int → Int → Int → Int → Int → List (S66) → Option (Int × Int × (List (S66)))
  | 0, _, _, _, _, _, _, _, _, _, _, _, _, _, _ => none
  | k + 1, x1, x8, x9, x37, x150000, x150001, x150002, x151000, x151001, x151002, x151003, x153000, x153001, x153002 => if x37 = true then (if x153002.length < 4398046511104 then ((some (x153002 ++ [(⟨x151000, x151001, x151002, x151003⟩ : S66)] : List (S66))).bind fun y157 => (if 0 ≤ x9 then (if x9 < (x150002.length : Int) then (if ((rd_T66 x150002 x9).f0) = x1 then (spec_l14Held.l0 k x1 true (wrap64 (x9 + 1)) x150000 x150001 x150002 x151000 x151001 x151002 x151003 x153000 x153001 y157) else (if y157.length < 4398046511104 then (spec_l14Held.l0 k x1 true (wrap64 (x9 + 1)) x150000 x150001 x150002 x151000 x151001 x151002 x151003 x153000 x153001 (y157 ++ [(⟨(rd_T66 x150002 x9).f0, (rd_T66 x150002 x9).f1, (rd_T66 x150002 x9).f2, (rd_T66 x150002 x9).f3⟩ : S66)])) else (none))) else (none)) else (none))) else (none)) else (if 0 ≤ x9 then (if x9 < (x150002.length : Int) then (if ((rd_T66 x150002 x9).f0) = x1 then (spec_l14Held.l0 k x1 x8 (wrap64 (x9 + 1)) x150000 x150001 x150002 x151000 x151001 x151002 x151003 x153000 x153001 x153002) else (if x153002.length < 4398046511104 then (spec_l14Held.l0 k x1 x8 (wrap64 (x9 + 1)) x150000 x150001 x150002 x151000 x151001 x151002 x151003 x153000 x153001 (x153002 ++ [(⟨(rd_T66 x150002 x9).f0, (rd_T66 x150002 x9).f1, (rd_T66 x150002 x9).f2, (rd_T66 x150002 x9).f3⟩ : S66)])) else (none))) else (none)) else (none))
end
def spec_l14Held.f (k : Nat) (a0_0 : Int) (a0_1 : Int) (l0_2 : List (S66)) (a1 : Int) (a2_0 : Int) (a2_1 : Int) (a2_2 : Int) (a2_3 : Int) : Option (Int × Int × (List (S66))) := spec_l14Held.l0 k a1 (a2_0 == 0) 0 a0_0 a0_1 l0_2 a2_0 a2_1 a2_2 a2_3 a0_0 a0_1 ([] : List (S66))
def spec_Unbook.l0 : Nat → Int → Int → Int → Int → List (S66) → Option (Int × Int × (List (S66)) × Bool)
  | 0, _, _, _, _, _ => none
  | k + 1, x1, x6, x171000, x171001, x171002 => if x6 < (x171002.length : Int) then (if 0 ≤ x6 then (if ((rd_T66 x171002 x6).f0) = x1 then ((spec_l14Held.f k x171000 x171001 x171002 x1 0 0 0 0).bind fun bt179 => (some (bt179.1, bt179.2.1, bt179.2.2, true))) else (spec_Unbook.l0 k x1 (wrap64 (x6 + 1)) x171000 x171001 x171002)) else (none)) else ((spec_l14Same.f k x171000 x171001 x171002).bind fun bt184 => (some (bt184.1, bt184.2.1, bt184.2.2, false)))
def spec_Unbook.f (k : Nat) (a0_0 : Int) (a0_1 : Int) (l0_2 : List (S66)) (a1 : Int) : Option (Int × Int × (List (S66)) × Bool) := (spec_TrainOk.f k a0_0 a0_1 l0_2).bind fun t172 => (if t172 = true then (spec_Unbook.l0 k a1 0 a0_0 a0_1 l0_2) else ((spec_l14Same.f k a0_0 a0_1 l0_2).bind fun bt173 => (some (bt173.1, bt173.2.1, bt173.2.2, false))))
def spec_l14Asked.f (k : Nat) (a0_0 : Int) (a0_1 : Int) (l0_2 : List (S66)) (a1 : Int) (a2 : Int) : Option (Bool) := (spec_TrainOk.f k a0_0 a0_1 l0_2).bind fun t190 => (if t190 = true then ((spec_l01In.f a2 1 a0_1).bind fun t191 => (if t191 = true then ((spec_l01In.f a1 0 (wrap64 (a2 - 1))).bind fun t192 => (some t192)) else (some false))) else (some false))
def spec_l14Free.l0 : Nat → Int → Int → Int → Int → Int → List (S66) → Option (Bool)
  | 0, _, _, _, _, _, _ => none
  | k + 1, x1, x2, x7, x194000, x194001, x194002 => if x7 < (x194002.length : Int) then (if 0 ≤ x7 then (if ((rd_T66 x194002 x7).f1) = x1 then ((spec_l01In.f x2 ((rd_T66 x194002 x7).f2) (wrap64 (((rd_T66 x194002 x7).f3) - 1))).bind fun t197 => (if t197 = true then (some false) else (spec_l14Free.l0 k x1 x2 (wrap64 (x7 + 1)) x194000 x194001 x194002))) else (spec_l14Free.l0 k x1 x2 (wrap64 (x7 + 1)) x194000 x194001 x194002)) else (none)) else (some true)
def spec_l14Free.f (k : Nat) (a0_0 : Int) (a0_1 : Int) (l0_2 : List (S66)) (a1 : Int) (a2 : Int) : Option (Bool) := spec_l14Free.l0 k a1 a2 0 a0_0 a0_1 l0_2
mutual
def spec_FreeSeats.l0 : Nat → Int → Int → List Int → Int → Int → Int → List (S66) → Option (List Int)
  | 0, _, _, _, _, _, _, _ => none
  | k + 1, x1, x2, x7, x8, x199000, x199001, x199002 => if x8 < x199000 then (spec_FreeSeats.l1 k x1 x2 x7 x8 true x1 x199000 x199001 x199002) else (some x7)
def spec_FreeSeats.l1 : Nat → Int → Int → List Int → Int → Bool → Int → Int → Int → List (S66) → Option (List Int)
  | 0, _, _, _, _, _, _, _, _, _ => none
  | k + 1, x1, x2, x7, x8, x9, x10, x199000, x199001, x199002 => if x10 < x2 then ((spec_l14Free.f k x199000 x199001 x199002 x8 x10).bind fun t203 => (if t203 = true then (spec_FreeSeats.l1 k x1 x2 x7 x8 x9 (wrap64 (x10 + 1)) x199000 x199001 x199002) else (spec_FreeSeats.l1 k x1 x2 x7 x8 false (wrap64 (x10 + 1)) x199000 x199001 x199002))) else (if x9 = true then (if x7.length < 17592186044416 then (spec_FreeSeats.l0 k x1 x2 (x7 ++ [x8]) (wrap64 (x8 + 1)) x199000 x199001 x199002) else (none)) else (spec_FreeSeats.l0 k x1 x2 x7 (wrap64 (x8 + 1)) x199000 x199001 x199002))
end
def spec_FreeSeats.f (k : Nat) (a0_0 : Int) (a0_1 : Int) (l0_2 : List (S66)) (a1 : Int) (a2 : Int) : Option (List Int) := (spec_l14Asked.f k a0_0 a0_1 l0_2 a1 a2).bind fun t199 => (if t199 = true then (spec_FreeSeats.l0 k a1 a2 (([] : List Int)) 0 a0_0 a0_1 l0_2) else (some ([] : List Int)))
def spec_l01Has.l0 : Nat → List Int → Int → Int → Option (Bool)
  | 0, _, _, _ => none
  | k + 1, x0, x1, x5 => if x5 < (x0.length : Int) then (if 0 ≤ x5 then (if (rd x0 x5) = x1 then (some true) else (spec_l01Has.l0 k x0 x1 (wrap64 (x5 + 1)))) else (none)) else (some false)
def spec_l01Has.f (k : Nat) (l0 : List Int) (a1 : Int) : Option (Bool) := spec_l01Has.l0 k l0 a1 0
mutual
def spec_Hole.j1 : Nat → Int → Int → Int → Int → Int → List (S66) → Option (Int)
  | 0, _, _, _, _, _, _ => none
  | k + 1, x1, x2, x3, x209000, x209001, x209002 => spec_Hole.l1 k x1 x2 x3 x209000 x209001 x209002
def spec_Hole.l1 : Nat → Int → Int → Int → Int → Int → List (S66) → Option (Int)
  | 0, _, _, _, _, _, _ => none
  | k + 1, x1, x2, x3, x209000, x209001, x209002 => if x3 < x209001 then ((spec_l14Free.f k x209000 x209001 x209002 x1 x3).bind fun t214 => (if t214 = true then (spec_Hole.l1 k x1 x2 (wrap64 (x3 + 1)) x209000 x209001 x209002) else (some (wrap64 (x3 - x2))))) else (some (wrap64 (x3 - x2)))
def spec_Hole.l0 : Nat → Int → Int → Int → Int → Int → List (S66) → Option (Int)
  | 0, _, _, _, _, _, _ => none
  | k + 1, x1, x2, x3, x209000, x209001, x209002 => if x2 > 0 then ((spec_l14Free.f k x209000 x209001 x209002 x1 (wrap64 (x2 - 1))).bind fun t213 => (if t213 = true then (spec_Hole.l0 k x1 (wrap64 (x2 - 1)) x3 x209000 x209001 x209002) else (spec_Hole.j1 k x1 x2 x3 x209000 x209001 x209002))) else (spec_Hole.j1 k x1 x2 x3 x209000 x209001 x209002)
end
def spec_Hole.f (k : Nat) (a0_0 : Int) (a0_1 : Int) (l0_2 : List (S66)) (a1 : Int) (a2 : Int) (a3 : Int) : Option (Int) := (spec_FreeSeats.f k a0_0 a0_1 l0_2 a2 a3).bind fun t209 => ((spec_l01Has.f k t209 a1).bind fun t212 => (if t212 = true then (spec_Hole.l0 k a1 a2 a3 a0_0 a0_1 l0_2) else (some 0)))
mutual
def spec_Book.j0 : Nat → Int → Int → Int → Bool → Int → Int → List (S66) → Int → Int → List (S66) → Option (Int × Int × (List (S66)) × Int)
  | 0, _, _, _, _, _, _, _, _, _, _ => none
  | k + 1, x1, x2, x3, x32, x216000, x216001, x216002, x223000, x223001, x223002 => if x32 = true then ((spec_l14Same.f k x216000 x216001 x216002).bind fun bt224 => (some (bt224.1, bt224.2.1, bt224.2.2, (-1)))) else (spec_Book.l0 k x1 x2 x3 0 x216000 x216001 x216002 x223000 x223001 x223002)
def spec_Book.l0 : Nat → Int → Int → Int → Int → Int → Int → List (S66) → Int → Int → List (S66) → Option (Int × Int × (List (S66)) × Int)
  | 0, _, _, _, _, _, _, _, _, _, _ => none
  | k + 1, x1, x2, x3, x11, x216000, x216001, x216002, x223000, x223001, x223002 => if x11 < (x216002.length : Int) then (if 0 ≤ x11 then (if ((rd_T66 x216002 x11).f0) = x1 then (some (x223000, x223001, x223002, (-1))) else (spec_Book.l0 k x1 x2 x3 (wrap64 (x11 + 1)) x216000 x216001 x216002 x223000 x223001 x223002)) else (none)) else ((spec_FreeSeats.f k x216000 x216001 x216002 x2 x3).bind fun t230 => (spec_Book.l1 k x1 x2 x3 t230 (-1) 0 x216000 x216001 x216002 x223000 x223001 x223002))
def spec_Book.l1 : Nat → Int → Int → Int → List Int → Int → Int → Int → Int → List (S66) → Int → Int → List (S66) → Option (Int × Int × (List (S66)) × Int)
  | 0, _, _, _, _, _, _, _, _, _, _, _, _ => none
  | k + 1, x1, x2, x3, x12, x13, x14, x216000, x216001, x216002, x223000, x223001, x223002 => if x14 < (x12.length : Int) then (if x13 < 0 then (if 0 ≤ x14 then (spec_Book.l1 k x1 x2 x3 x12 (rd x12 x14) (wrap64 (x14 + 1)) x216000 x216001 x216002 x223000 x223001 x223002) else (none)) else (if 0 ≤ x14 then ((spec_Hole.f k x216000 x216001 x216002 (rd x12 x14) x2 x3).bind fun t240 => ((spec_Hole.f k x216000 x216001 x216002 x13 x2 x3).bind fun t241 => (if t240 < t241 then (spec_Book.l1 k x1 x2 x3 x12 (rd x12 x14) (wrap64 (x14 + 1)) x216000 x216001 x216002 x223000 x223001 x223002) else (spec_Book.l1 k x1 x2 x3 x12 x13 (wrap64 (x14 + 1)) x216000 x216001 x216002 x223000 x223001 x223002)))) else (none))) else (if x13 < 0 then (some (x223000, x223001, x223002, (-1))) else ((spec_l14Held.f k x216000 x216001 x216002 0 x1 x13 x2 x3).bind fun bt233 => (some (bt233.1, bt233.2.1, bt233.2.2, x13))))
end
def spec_Book.f (k : Nat) (a0_0 : Int) (a0_1 : Int) (l0_2 : List (S66)) (a1 : Int) (a2 : Int) (a3 : Int) : Option (Int × Int × (List (S66)) × Int) := (spec_l14Held.f k a0_0 a0_1 l0_2 0 0 0 0 0).bind fun bt217 => ((spec_l14Asked.f k a0_0 a0_1 l0_2 a2 a3).bind fun t223 => (if t223 = true then (if a1 ≤ 0 then (spec_Book.j0 k a1 a2 a3 true a0_0 a0_1 l0_2 bt217.1 bt217.2.1 bt217.2.2) else (spec_Book.j0 k a1 a2 a3 (decide ((l0_2.length : Int) ≥ 200)) a0_0 a0_1 l0_2 bt217.1 bt217.2.1 bt217.2.2)) else (spec_Book.j0 k a1 a2 a3 true a0_0 a0_1 l0_2 bt217.1 bt217.2.1 bt217.2.2)))
mutual
def spec_PlaySales.j0 : Nat → List (S56) → Bool → Int → Int → List (S66) → Option (Int × Int × (List (S66)) × List Int)
  | 0, _, _, _, _, _ => none
  | k + 1, x1, x20, x244000, x244001, x244002 => if x20 = true then ((spec_l14Same.f k x244000 x244001 x244002).bind fun bt246 => (some (bt246.1, bt246.2.1, bt246.2.2, ([] : List Int)))) else ((spec_l14Same.f k x244000 x244001 x244002).bind fun bt251 => (spec_PlaySales.l0 k x1 (([] : List Int)) 0 bt251.1 bt251.2.1 bt251.2.2))
def spec_PlaySales.l0 : Nat → List (S56) → List Int → Int → Int → Int → List (S66) → Option (Int × Int × (List (S66)) × List Int)
  | 0, _, _, _, _, _, _ => none
  | k + 1, x1, x7, x8, x257000, x257001, x257002 => if x8 < (x1.length : Int) then (if 0 ≤ x8 then (if ((rd_T56 x1 x8).f0) = 0 then ((spec_Book.f k x257000 x257001 x257002 ((rd_T56 x1 x8).f1) ((rd_T56 x1 x8).f2) ((rd_T56 x1 x8).f3)).bind fun bt262 => (spec_PlaySales.j2 k x1 x7 x8 bt262.2.2.2 bt262.1 bt262.2.1 bt262.2.2.1 ((rd_T56 x1 x8).f0) ((rd_T56 x1 x8).f1) ((rd_T56 x1 x8).f2) ((rd_T56 x1 x8).f3))) else (spec_PlaySales.j2 k x1 x7 x8 (-1) x257000 x257001 x257002 ((rd_T56 x1 x8).f0) ((rd_T56 x1 x8).f1) ((rd_T56 x1 x8).f2) ((rd_T56 x1 x8).f3))) else (none)) else (some (x257000, x257001, x257002, x7))
def spec_PlaySales.j2 : Nat → List (S56) → List Int → Int → Int → Int → Int → List (S66) → Int → Int → Int → Int → Option (Int × Int × (List (S66)) × List Int)
  | 0, _, _, _, _, _, _, _, _, _, _, _ => none
  | k + 1, x1, x7, x8, x10, x257000, x257001, x257002, x262000, x262001, x262002, x262003 => if x262000 = 1 then ((spec_Unbook.f k x257000 x257001 x257002 x262001).bind fun bt268 => (if bt268.2.2.2 = true then (if x7.length < 17592186044416 then (spec_PlaySales.l0 k x1 (x7 ++ [0]) (wrap64 (x8 + 1)) bt268.1 bt268.2.1 bt268.2.2.1) else (none)) else (if x7.length < 17592186044416 then (spec_PlaySales.l0 k x1 (x7 ++ [x10]) (wrap64 (x8 + 1)) bt268.1 bt268.2.1 bt268.2.2.1) else (none)))) else (if x7.length < 17592186044416 then (spec_PlaySales.l0 k x1 (x7 ++ [x10]) (wrap64 (x8 + 1)) x257000 x257001 x257002) else (none))
end
def spec_PlaySales.f (k : Nat) (a0_0 : Int) (a0_1 : Int) (l0_2 : List (S66)) (l1 : List (S56)) : Option (Int × Int × (List (S66)) × List Int) := (spec_TrainOk.f k a0_0 a0_1 l0_2).bind fun t245 => (if t245 = true then (spec_PlaySales.j0 k l1 (decide ((l1.length : Int) > 200)) a0_0 a0_1 l0_2) else (spec_PlaySales.j0 k l1 true a0_0 a0_1 l0_2))
def spec_l01Byte.f (s0_0 : List Int) (s0_1 : Int) (s0_2 : Int) : Option (Int × Int × Int) := if s0_1 < (s0_0.length : Int) then (if 0 ≤ s0_1 then (some (Go.bits .and .i64 (wrap64 ((Go.bits .and .i64 (Go.bits .xor .i64 ((wrap64 ((wrap64 (s0_2 * 6364136223846793005)) + 1442695040888963407)) / 8589934592) ((wrap64 ((wrap64 (s0_2 * 6364136223846793005)) + 1442695040888963407)) / 35184372088832)) 255) + (wrap64 (rd s0_0 s0_1)))) 255, wrap64 (s0_1 + 1), wrap64 ((wrap64 (s0_2 * 6364136223846793005)) + 1442695040888963407))) else (none)) else (some (Go.bits .and .i64 (Go.bits .xor .i64 ((wrap64 ((wrap64 (s0_2 * 6364136223846793005)) + 1442695040888963407)) / 8589934592) ((wrap64 ((wrap64 (s0_2 * 6364136223846793005)) + 1442695040888963407)) / 35184372088832)) 255, s0_1, wrap64 ((wrap64 (s0_2 * 6364136223846793005)) + 1442695040888963407)))
def spec_l01Below.f (s0_0 : List Int) (s0_1 : Int) (s0_2 : Int) (a1 : Int) : Option (Int × Int × Int) := if a1 ≤ 0 then (some (0, s0_1, s0_2)) else (if a1 ≤ 256 then ((spec_l01Byte.f s0_0 s0_1 s0_2).bind fun bt285 => (if a1 = 0 then (none) else (some (Int.tmod bt285.1 a1, bt285.2.1, bt285.2.2)))) else ((spec_l01Byte.f s0_0 s0_1 s0_2).bind fun bt288 => ((spec_l01Byte.f s0_0 bt288.2.1 bt288.2.2).bind fun bt291 => ((spec_l01Byte.f s0_0 bt291.2.1 bt291.2.2).bind fun bt294 => (if a1 = 0 then (none) else (some (Int.tmod (wrap64 ((wrap64 ((wrap64 (bt288.1 * 65536)) + (wrap64 (bt291.1 * 256)))) + bt294.1)) a1, bt294.2.1, bt294.2.2)))))))
def spec_l01PickInt.f (s0_0 : List Int) (s0_1 : Int) (s0_2 : Int) (l1 : List Int) : Option (Int × Int × Int) := (spec_l01Below.f s0_0 s0_1 s0_2 (l1.length : Int)).bind fun bt297 => (if 0 ≤ bt297.1 then (if bt297.1 < (l1.length : Int) then (some (rd l1 bt297.1, bt297.2.1, bt297.2.2)) else (none)) else (none))
def spec_l01Once.f (s0_0 : List Int) (s0_1 : Int) (s0_2 : Int) (a1 : Int) : Option (Bool × Int × Int) := (spec_l01Below.f s0_0 s0_1 s0_2 a1).bind fun bt301 => (some ((bt301.1 == 0), bt301.2.1, bt301.2.2))
def spec_l14DrawSales.l0 : Nat → Int → List (S56) → Int → List Int → Int → Int → Option ((List (S56)) × Int × Int)
  | 0, _, _, _, _, _, _ => none
  | k + 1, x2, x7, x8, x1000, x1001, x1002 => if x8 > 0 then ((spec_l01Below.f x1000 x1001 x1002 x2).bind fun bt310 => ((spec_l01Below.f x1000 bt310.2.1 bt310.2.2 4).bind fun bt313 => ((spec_l01PickInt.f x1000 bt313.2.1 bt313.2.2 (([0, 0, 0, 1, 0, 0, 1, wrap64 (bt313.1 - 1)] : List Int))).bind fun bt319 => ((spec_l01Below.f x1000 bt319.2.1 bt319.2.2 14).bind fun bt322 => ((spec_l01Below.f x1000 bt322.2.1 bt322.2.2 (wrap64 (x2 - bt310.1))).bind fun bt325 => ((spec_l01Once.f x1000 bt325.2.1 bt325.2.2 30).bind fun bt329 => (if bt329.1 = true then ((spec_l01PickInt.f x1000 bt329.2.1 bt329.2.2 (([bt310.1, wrap64 (x2 + 1), (-1)] : List Int))).bind fun bt335 => (if x7.length < 4398046511104 then (spec_l14DrawSales.l0 k x2 (x7 ++ [(⟨bt319.1, wrap64 (1 + bt322.1), bt310.1, bt335.1⟩ : S56)]) (wrap64 (x8 - 1)) x1000 bt335.2.1 bt335.2.2) else (none))) else (if x7.length < 4398046511104 then (spec_l14DrawSales.l0 k x2 (x7 ++ [(⟨bt319.1, wrap64 (1 + bt322.1), bt310.1, wrap64 ((wrap64 (bt310.1 + 1)) + bt325.1)⟩ : S56)]) (wrap64 (x8 - 1)) x1000 bt329.2.1 bt329.2.2) else (none))))))))) else (some (x7, x1001, x1002))
def spec_l14DrawSales.f (k : Nat) (s0_0 : List Int) (s0_1 : Int) (s0_2 : Int) (a1 : Int) (a2 : Int) : Option ((List (S56)) × Int × Int) := (spec_l01Below.f s0_0 s0_1 s0_2 a1).bind fun bt307 => (spec_l14DrawSales.l0 k a2 (([] : List (S56))) bt307.1 s0_0 bt307.2.1 bt307.2.2)
def spec_l01Size.f (l0 : List Int) (a1 : Int) : Option (Int) := if (wrap64 (2 + (wrap64 ((l0.length : Int) / 16)))) > a1 then (some a1) else (some (wrap64 (2 + (wrap64 ((l0.length : Int) / 16)))))
def spec_l14DrawRight.f (k : Nat) (s0_0 : List Int) (s0_1 : Int) (s0_2 : Int) (l1 : List Int) : Option (Int × Int × (List (S66)) × Int × Int) := (spec_l01Below.f s0_0 s0_1 s0_2 4).bind fun bt345 => ((spec_l01Below.f s0_0 bt345.2.1 bt345.2.2 6).bind fun bt348 => ((spec_l01Size.f l1 16).bind fun t352 => ((spec_l14DrawSales.f k s0_0 bt348.2.1 bt348.2.2 (wrap64 (2 + t352)) (wrap64 (1 + bt348.1))).bind fun bt353 => ((spec_PlaySales.f k (wrap64 (1 + bt345.1)) (wrap64 (1 + bt348.1)) ([] : List (S66)) bt353.1).bind fun bt358 => (some (bt358.1, bt358.2.1, bt358.2.2.1, bt353.2.1, bt353.2.2))))))
def spec_DrawRightTrain.f (k : Nat) (l0 : List Int) : Option (Int × Int × (List (S66)) × (List (S56))) := (spec_l01New.f k l0).bind fun bt368 => ((spec_l14DrawRight.f k bt368.1 bt368.2.1 bt368.2.2 l0).bind fun bt372 => ((spec_l01Size.f l0 20).bind fun t380 => ((spec_l14DrawSales.f k bt368.1 bt372.2.2.2.1 bt372.2.2.2.2 (wrap64 (2 + t380)) bt372.2.1).bind fun bt381 => (some (bt372.1, bt372.2.1, bt372.2.2.1, bt381.1)))))
def laws_within.l0 : Nat → List Int → Int → Int → Option (Bool)
  | 0, _, _, _ => none
  | k + 1, x0, x1, x5 => if x5 < (x0.length : Int) then (if 0 ≤ x5 then (if (rd x0 x5) = x1 then (some true) else (laws_within.l0 k x0 x1 (wrap64 (x5 + 1)))) else (none)) else (some false)
def laws_within.f (k : Nat) (l0 : List Int) (a1 : Int) : Option (Bool) := laws_within.l0 k l0 a1 0
def impl_Booking_86.l0 : Nat → List (S66) → Int → Int → Option ((List (S66)))
  | 0, _, _, _ => none
  | k + 1, x0, x2, x3 => if x2 < x3 then (if 0 ≤ x3 then (if x3 < (x0.length : Int) then (if 0 ≤ x2 then (if x2 < (x0.length : Int) then (impl_Booking_86.l0 k ((x0.set (x2 : Int).toNat (⟨(rd_T66 x0 x3).f0, (rd_T66 x0 x3).f1, (rd_T66 x0 x3).f2, (rd_T66 x0 x3).f3⟩ : S66)).set (x3 : Int).toNat (⟨(rd_T66 x0 x2).f0, (rd_T66 x0 x2).f1, (rd_T66 x0 x2).f2, (rd_T66 x0 x2).f3⟩ : S66)) (wrap64 (x2 + 1)) (wrap64 (x3 - 1))) else (none)) else (none)) else (none)) else (none)) else (some x0)
def impl_Booking_86.f (k : Nat) (l0 : List (S66)) : Option ((List (S66))) := impl_Booking_86.l0 k l0 0 (wrap64 ((l0.length : Int) - 1))
def impl_Book.l5 (l : List S66) (i : Nat) (y : S66) : List S66 := l.take i ++ y :: l.drop i
def impl_Book.l0 (h : Int → Int) : List Int → Int → Int → Int × Int
  | [], b, m => (b, m)
  | s :: t, b, m => if b < 0 ∨ h s < m then impl_Book.l0 h t s (h s) else impl_Book.l0 h t b m
def impl_Book.l1 (a b : Int) (l : List S66) (x y s : Int) : Int := (impl_Train_hole.l2 l s.toNat b.toNat (b.toNat - y.toNat) : Int) - (impl_Train_hole.l1 l s.toNat x.toNat : Int)
def impl_Book.l2 (id : Int) : List S66 → Nat
  | [] => 0
  | o :: t => if o.f0 < id then impl_Book.l2 id t + 1 else 0
def impl_Book.l3 (a b : Int) (l : List S66) (x y : Int) : Int := (impl_Book.l0 (impl_Book.l1 a b l x y) (impl_Train_freeSeats.l1 l a.toNat x.toNat y.toNat) (-1) 0).1
def impl_Book.l4 (a b : Int) (l : List S66) (id x y : Int) : Bool := decide (0 < id) && decide (impl_Unbook.l1 l id < 0) && decide (0 ≤ x ∧ x < y ∧ y ≤ b) && !decide (l.length = 200) && decide (0 ≤ impl_Book.l3 a b l x y)
def impl_Book.l6 (a b : Int) (l : List S66) (id x y : Int) : List S66 × Int :=
  if impl_Book.l4 a b l id x y = true then (impl_Book.l5 l (impl_Book.l2 id l) ⟨id, impl_Book.l3 a b l x y, x, y⟩, impl_Book.l3 a b l x y) else (l, -1)
def impl_Book.f (a0_0 a0_1 : Int) (l0_2 : List S66) (a1 a2 a3 : Int) : Option (Int × Int × List S66 × Int) :=
  if l0_2.length < 4398046511104 then some (a0_0, a0_1, if impl_TrainOk.l0 a0_0 a0_1 l0_2 = true then (impl_Book.l6 a0_0 a0_1 l0_2 a1 a2 a3).1 else l0_2, if impl_TrainOk.l0 a0_0 a0_1 l0_2 = true then (impl_Book.l6 a0_0 a0_1 l0_2 a1 a2 a3).2 else -1) else none
def impl_PlaySales.l0 (a b : Int) (l : List S66) (s : S56) : List S66 × Int :=
  if s.f0 = 0 then impl_Book.l6 a b l s.f1 s.f2 s.f3 else if s.f0 = 1 then (impl_Unbook.l0 l s.f1, if 0 ≤ impl_Unbook.l1 l s.f1 then 0 else -1) else (l, -1)
def impl_PlaySales.l1 (a b : Int) : List S56 → List S66 → List S66 × List Int
  | [], l => (l, [])
  | s :: t, l => ((impl_PlaySales.l1 a b t (impl_PlaySales.l0 a b l s).1).1, (impl_PlaySales.l0 a b l s).2 :: (impl_PlaySales.l1 a b t (impl_PlaySales.l0 a b l s).1).2)
def impl_PlaySales.f (a0_0 a0_1 : Int) (l0_2 : List S66) (l1 : List S56) : Option (Int × Int × List S66 × List Int) :=
  if l0_2.length < 4398046511104 then some (if impl_TrainOk.l0 a0_0 a0_1 l0_2 = true ∧ l1.length ≤ 200 then (a0_0, a0_1, (impl_PlaySales.l1 a0_0 a0_1 l1 l0_2).1, (impl_PlaySales.l1 a0_0 a0_1 l1 l0_2).2) else (a0_0, a0_1, l0_2, [])) else none
mutual
def laws_sameTrain.j0 : Nat → Bool → Int → Int → List (S66) → Int → Int → List (S66) → Option (Bool)
  | 0, _, _, _, _, _, _, _ => none
  | k + 1, x26, x396000, x396001, x396002, x397000, x397001, x397002 => if x26 = true then (some false) else (laws_sameTrain.l0 k 0 x396000 x396001 x396002 x397000 x397001 x397002)
def laws_sameTrain.l0 : Nat → Int → Int → Int → List (S66) → Int → Int → List (S66) → Option (Bool)
  | 0, _, _, _, _, _, _, _ => none
  | k + 1, x5, x396000, x396001, x396002, x397000, x397001, x397002 => if x5 < (x396002.length : Int) then (if 0 ≤ x5 then (if x5 < (x397002.length : Int) then (if (!(((rd_T66 x396002 x5).f0) == ((rd_T66 x397002 x5).f0)) || (!(((rd_T66 x396002 x5).f1) == ((rd_T66 x397002 x5).f1)) || (!(((rd_T66 x396002 x5).f2) == ((rd_T66 x397002 x5).f2)) || (!(((rd_T66 x396002 x5).f3) == ((rd_T66 x397002 x5).f3)))))) = true then (some false) else (laws_sameTrain.l0 k (wrap64 (x5 + 1)) x396000 x396001 x396002 x397000 x397001 x397002)) else (none)) else (none)) else (some true)
end
def laws_sameTrain.f (k : Nat) (a0_0 : Int) (a0_1 : Int) (l0_2 : List (S66)) (a1_0 : Int) (a1_1 : Int) (l1_2 : List (S66)) : Option (Bool) := if a0_0 = a1_0 then (if a0_1 = a1_1 then (laws_sameTrain.j0 k ((l0_2.length : Int) != (l1_2.length : Int)) a0_0 a0_1 l0_2 a1_0 a1_1 l1_2) else (laws_sameTrain.j0 k true a0_0 a0_1 l0_2 a1_0 a1_1 l1_2)) else (laws_sameTrain.j0 k true a0_0 a0_1 l0_2 a1_0 a1_1 l1_2)
end Go.Proofs.Ytklikbjlfaednaa.P

/- The functions of the program as plain Lean functions, without memory and machine; written by a program of the session. -/
import Derived.Test.YtklikbjlfaednaaProg
import Derived.Test.YtklikbjlfaednaaV
namespace Go.Proofs.Ytklikbjlfaednaa.P
open Go.RowKit Go.Proofs.YtklikbjlfaednaaW.PrintWords Go.Proofs.YtklikbjlfaednaaW.PrintLast Go.Proofs.YtklikbjlfaednaaW.PrintMore
set_option linter.unusedVariables false

structure S89 where
  f0 : Int
  f1 : Int
  f2 : Int
  f3 : Int
def z89 : S89 := ⟨(0 : Int), (0 : Int), (0 : Int), (0 : Int)⟩
def rd_T89 (xs : List S89) (i : Int) : S89 := xs.getD i.toNat z89
structure S66 where
  f0 : Int
  f1 : Int
  f2 : Int
  f3 : Int
def z66 : S66 := ⟨(0 : Int), (0 : Int), (0 : Int), (0 : Int)⟩
def rd_T66 (xs : List S66) (i : Int) : S66 := xs.getD i.toNat z66
structure S86 where
  f0 : Int
  f1 : Int
  f2 : Int
  f3 : Int
def z86 : S86 := ⟨(0 : Int), (0 : Int), (0 : Int), (0 : Int)⟩
def rd_T86 (xs : List S86) (i : Int) : S86 := xs.getD i.toNat z86
structure S56 where
  f0 : Int
  f1 : Int
  f2 : Int
  f3 : Int
def z56 : S56 := ⟨(0 : Int), (0 : Int), (0 : Int), (0 : Int)⟩
def rd_T56 (xs : List S56) (i : Int) : S56 := xs.getD i.toNat z56
def rd_L6 (xs : List (List S89)) (i : Int) : (List S89) := xs.getD i.toNat ([] : List S89)
structure S24 where
  f0 : Int
  f1 : Int
  f2 : (List S89)
def z24 : S24 := ⟨(0 : Int), (0 : Int), ([] : List S89)⟩
def rd_T24 (xs : List S24) (i : Int) : S24 := xs.getD i.toNat z24
def rd_L8 (xs : List (List S86)) (i : Int) : (List S86) := xs.getD i.toNat ([] : List S86)
def laws_szBookingS.f (l0 : List (S89)) (a1 : Int) : Option (Int) := if (wrap64 (a1 - (l0.length : Int))) < 0 then (some (-1)) else (some (wrap64 (a1 - (l0.length : Int))))
def laws_szTrain.f (a0_0 : Int) (a0_1 : Int) (l0_2 : List (S89)) (a1 : Int) : Option (Int) := (laws_szBookingS.f l0_2 a1).bind fun t102 => (if t102 < 0 then (some (-1)) else (some t102))
def laws_toBooking.f (a0_0 : Int) (a0_1 : Int) (a0_2 : Int) (a0_3 : Int) : Option (Int × Int × Int × Int) := some (a0_0, a0_1, a0_2, a0_3)
def laws_toBookingS.l0 : Nat → List (S89) → List (S66) → Int → Option ((List (S66)))
  | 0, _, _, _ => none
  | k + 1, x0, x3, x4 => if x4 < (x0.length : Int) then (if 0 ≤ x4 then ((laws_toBooking.f ((rd_T89 x0 x4).f0) ((rd_T89 x0 x4).f1) ((rd_T89 x0 x4).f2) ((rd_T89 x0 x4).f3)).bind fun bt110 => (if x4 < (x3.length : Int) then (laws_toBookingS.l0 k x0 (x3.set (x4 : Int).toNat (⟨bt110.1, bt110.2.1, bt110.2.2.1, bt110.2.2.2⟩ : S66)) (wrap64 (x4 + 1))) else (none))) else (none)) else (some x3)
def laws_toBookingS.f (k : Nat) (l0 : List (S89)) : Option ((List (S66))) := if 0 ≤ (l0.length : Int) then (if ((l0.length : Int) : Int).toNat ≤ 8796093022208 then (laws_toBookingS.l0 k l0 (List.replicate ((l0.length : Int) : Int).toNat z66) 0) else (none)) else (none)
def laws_toTrain.f (k : Nat) (a0_0 : Int) (a0_1 : Int) (l0_2 : List (S89)) : Option (Int × Int × (List (S66))) := (laws_toBookingS.f k l0_2).bind fun t118 => (some (a0_0, a0_1, t118))
def laws_eqBooking.f (a0_0 : Int) (a0_1 : Int) (a0_2 : Int) (a0_3 : Int) (a1_0 : Int) (a1_1 : Int) (a1_2 : Int) (a1_3 : Int) : Option (Bool) := if a0_0 = a1_0 then (if a0_1 = a1_1 then (if a0_2 = a1_2 then (if a0_3 = a1_3 then (some true) else (some false)) else (some false)) else (some false)) else (some false)
def laws_eqBookingS.l0 : Nat → List (S66) → List (S66) → Int → Option (Bool)
  | 0, _, _, _ => none
  | k + 1, x0, x1, x5 => if x5 < (x0.length : Int) then (if 0 ≤ x5 then (if x5 < (x1.length : Int) then ((laws_eqBooking.f ((rd_T66 x0 x5).f0) ((rd_T66 x0 x5).f1) ((rd_T66 x0 x5).f2) ((rd_T66 x0 x5).f3) ((rd_T66 x1 x5).f0) ((rd_T66 x1 x5).f1) ((rd_T66 x1 x5).f2) ((rd_T66 x1 x5).f3)).bind fun t125 => (if t125 = true then (laws_eqBookingS.l0 k x0 x1 (wrap64 (x5 + 1))) else (some false))) else (none)) else (none)) else (some true)
def laws_eqBookingS.f (k : Nat) (l0 : List (S66)) (l1 : List (S66)) : Option (Bool) := if (l0.length : Int) = (l1.length : Int) then (laws_eqBookingS.l0 k l0 l1 0) else (some false)
def laws_eqTrain.f (k : Nat) (a0_0 : Int) (a0_1 : Int) (l0_2 : List (S66)) (a1_0 : Int) (a1_1 : Int) (l1_2 : List (S66)) : Option (Bool) := if a0_0 = a1_0 then (if a0_1 = a1_1 then ((laws_eqBookingS.f k l0_2 l1_2).bind fun t128 => (if t128 = true then (some true) else (some false))) else (some false)) else (some false)
def laws_eqIntS.l0 : Nat → List Int → List Int → Int → Option (Bool)
  | 0, _, _, _ => none
  | k + 1, x0, x1, x5 => if x5 < (x0.length : Int) then (if 0 ≤ x5 then (if x5 < (x1.length : Int) then (if (rd x0 x5) = (rd x1 x5) then (laws_eqIntS.l0 k x0 x1 (wrap64 (x5 + 1))) else (some false)) else (none)) else (none)) else (some true)
def laws_eqIntS.f (k : Nat) (l0 : List Int) (l1 : List Int) : Option (Bool) := if (l0.length : Int) = (l1.length : Int) then (laws_eqIntS.l0 k l0 l1 0) else (some false)
def laws_markBookingS.l0 : Nat → List (S66) → Int → Int → Option (Int × (List (S66)))
  | 0, _, _, _ => none
  | k + 1, x0, x1, x5 => if x5 < (x0.length : Int) then (if 0 ≤ x5 then ((some (x0.set (x5 : Int).toNat (⟨x1, (rd_T66 x0 x5).f1, (rd_T66 x0 x5).f2, (rd_T66 x0 x5).f3⟩ : S66) : List (S66))).bind fun y131 => ((some (y131.set (x5 : Int).toNat (⟨(rd_T66 y131 x5).f0, wrap64 (x1 + 1), (rd_T66 y131 x5).f2, (rd_T66 y131 x5).f3⟩ : S66) : List (S66))).bind fun y132 => ((some (y132.set (x5 : Int).toNat (⟨(rd_T66 y132 x5).f0, (rd_T66 y132 x5).f1, wrap64 ((wrap64 (x1 + 1)) + 1), (rd_T66 y132 x5).f3⟩ : S66) : List (S66))).bind fun y133 => (laws_markBookingS.l0 k (y133.set (x5 : Int).toNat (⟨(rd_T66 y133 x5).f0, (rd_T66 y133 x5).f1, (rd_T66 y133 x5).f2, wrap64 ((wrap64 ((wrap64 (x1 + 1)) + 1)) + 1)⟩ : S66)) (wrap64 ((wrap64 ((wrap64 ((wrap64 (x1 + 1)) + 1)) + 1)) + 1)) (wrap64 (x5 + 1)))))) else (none)) else (some (x1, x0))
def laws_markBookingS.f (k : Nat) (l0 : List (S66)) (a1 : Int) : Option (Int × (List (S66))) := laws_markBookingS.l0 k l0 a1 0
def laws_markTrain.f (k : Nat) (a0_0 : Int) (a0_1 : Int) (l0_2 : List (S66)) (a1 : Int) : Option (Int × (List (S66))) := (laws_markBookingS.f k l0_2 a1).bind fun bt136 => (some (bt136.1, bt136.2))
def laws_markIntS.l0 : Nat → List Int → Int → Int → Option (Int × List Int)
  | 0, _, _, _ => none
  | k + 1, x0, x1, x5 => if x5 < (x0.length : Int) then (if 0 ≤ x5 then (laws_markIntS.l0 k (x0.set (x5 : Int).toNat x1) (wrap64 (x1 + 1)) (wrap64 (x5 + 1))) else (none)) else (some (x1, x0))
def laws_markIntS.f (k : Nat) (l0 : List Int) (a1 : Int) : Option (Int × List Int) := laws_markIntS.l0 k l0 a1 0
def laws_heldIntS.l0 : Nat → List Int → Int → Int → Option (Int)
  | 0, _, _, _ => none
  | k + 1, x0, x1, x5 => if x5 < (x0.length : Int) then (if 0 ≤ x5 then (if (rd x0 x5) = x1 then (laws_heldIntS.l0 k x0 (wrap64 (x1 + 1)) (wrap64 (x5 + 1))) else (some (-1))) else (none)) else (some x1)
def laws_heldIntS.f (k : Nat) (l0 : List Int) (a1 : Int) : Option (Int) := laws_heldIntS.l0 k l0 a1 0
def laws_heldBookingS.l0 : Nat → List (S66) → Int → Int → Option (Int)
  | 0, _, _, _ => none
  | k + 1, x0, x1, x5 => if x5 < (x0.length : Int) then (if 0 ≤ x5 then (if ((rd_T66 x0 x5).f0) = x1 then (if ((rd_T66 x0 x5).f1) = (wrap64 (x1 + 1)) then (if ((rd_T66 x0 x5).f2) = (wrap64 ((wrap64 (x1 + 1)) + 1)) then (if ((rd_T66 x0 x5).f3) = (wrap64 ((wrap64 ((wrap64 (x1 + 1)) + 1)) + 1)) then (laws_heldBookingS.l0 k x0 (wrap64 ((wrap64 ((wrap64 ((wrap64 (x1 + 1)) + 1)) + 1)) + 1)) (wrap64 (x5 + 1))) else (some (-1))) else (some (-1))) else (some (-1))) else (some (-1))) else (none)) else (some x1)
def laws_heldBookingS.f (k : Nat) (l0 : List (S66)) (a1 : Int) : Option (Int) := laws_heldBookingS.l0 k l0 a1 0
def laws_heldTrain.f (k : Nat) (a0_0 : Int) (a0_1 : Int) (l0_2 : List (S66)) (a1 : Int) : Option (Int) := (laws_heldBookingS.f k l0_2 a1).bind fun t145 => (if t145 < 0 then (some (-1)) else (some t145))
def impl_between.f (a0 : Int) (a1 : Int) (a2 : Int) : Option (Bool) := if a0 ≥ a1 then (some (decide (a0 ≤ a2))) else (some false)
def impl_Train_ride.f (a0_0 : Int) (a0_1 : Int) (l0_2 : List (S66)) (a1 : Int) (a2 : Int) : Option (Bool) := if 0 ≤ a1 then (if a1 < a2 then (some (decide (a2 ≤ a0_1))) else (some false)) else (some false)
def impl_TrainOk.l4 (s p : Nat) (b : S66) : Bool := decide (b.f1 = (s : Int)) && decide (b.f2 ≤ (p : Int)) && decide ((p : Int) < b.f3)
def impl_TrainOk.l3 (b o : S66) : Bool := decide (o.f1 = b.f1) && decide (o.f2 < b.f3) && decide (b.f2 < o.f3)
def impl_TrainOk.l1 (seats pieces : Int) (l : List S66) (i : Nat) : Bool :=
  decide ((if i = 0 then 0 else (rd_T66 l ((i - 1 : Nat) : Int)).f0) < (rd_T66 l (i : Int)).f0) && decide (0 ≤ (rd_T66 l (i : Int)).f1 ∧ (rd_T66 l (i : Int)).f1 ≤ seats - 1) &&
    decide (0 ≤ (rd_T66 l (i : Int)).f2 ∧ (rd_T66 l (i : Int)).f2 < (rd_T66 l (i : Int)).f3 ∧ (rd_T66 l (i : Int)).f3 ≤ pieces) && !((l.take i).any (impl_TrainOk.l3 (rd_T66 l (i : Int))))
def impl_TrainOk.l0 (seats pieces : Int) (l : List S66) : Bool := decide (1 ≤ seats ∧ seats ≤ 60) && decide (1 ≤ pieces ∧ pieces ≤ 11) && decide (l.length ≤ 200) && (List.range l.length).all (impl_TrainOk.l1 seats pieces l)
def impl_TrainOk.f (a0_0 a0_1 : Int) (l0_2 : List S66) : Option Bool := some (impl_TrainOk.l0 a0_0 a0_1 l0_2)
def impl_cloneTrain.f (a0_0 : Int) (a0_1 : Int) (l0_2 : List (S66)) : Option (Int × Int × (List (S66))) := (some (([] : List (S66)) : List (S66))).bind fun y149 => (if y149.length + l0_2.length < 4398046511104 then (some (a0_0, a0_1, (y149 ++ l0_2))) else (none))
def impl_Unbook.l1 (l : List S66) (id : Int) : Int := if l.findIdx (fun o => o.f0 == id) < l.length then (l.findIdx (fun o => o.f0 == id) : Int) else -1
def impl_Unbook.l0 (l : List S66) (id : Int) : List S66 := if impl_Unbook.l1 l id < 0 then l else l.eraseIdx (impl_Unbook.l1 l id).toNat
def slices_Index_bool_bool.l0 : Nat → List Bool → Bool → Int → Int → Option (Int)
  | 0, _, _, _, _ => none
  | k + 1, x0, x1, x7, x8 => if x8 < x7 then (if 0 ≤ x8 then (if x8 < (x0.length : Int) then (if (x1 == (rdOf false x0 x8)) = true then (some x8) else (slices_Index_bool_bool.l0 k x0 x1 x7 (wrap64 (x8 + 1)))) else (none)) else (none)) else (some (-1))
def slices_Index_bool_bool.f (k : Nat) (l0 : List Bool) (a1 : Bool) : Option (Int) := slices_Index_bool_bool.l0 k l0 a1 (l0.length : Int) 0
def slices_Contains_bool_bool.f (k : Nat) (l0 : List Bool) (a1 : Bool) : Option (Bool) := (slices_Index_bool_bool.f k l0 a1).bind fun t156 => (some (decide (t156 ≥ 0)))
def impl_Train_freeSeats.l0 (l : List S66) (on off s : Nat) : Bool := (List.range' on (off - on)).any fun p => l.any (impl_TrainOk.l4 s p)
def impl_Train_freeSeats.l1 (l : List S66) (n on off : Nat) : List Int := ((List.range n).filter fun s => !(impl_Train_freeSeats.l0 l on off s)).map fun (s : Nat) => (s : Int)
def impl_Train_freeSeats.f (a0_0 a0_1 : Int) (l0_2 : List S66) (a1 a2 : Int) : Option (List Int) :=
  if impl_TrainOk.l0 a0_0 a0_1 l0_2 = true ∧ 0 ≤ a1 ∧ a1 < a2 ∧ a2 ≤ a0_1 then some (impl_Train_freeSeats.l1 l0_2 a0_0.toNat a1.toNat a2.toNat) else none
def impl_Train_hole.l1 (l : List S66) (s : Nat) : Nat → Nat
  | 0 => 0
  | k + 1 => if l.any (impl_TrainOk.l4 s k) = true then k + 1 else impl_Train_hole.l1 l s k
def impl_Train_hole.l2 (l : List S66) (s P : Nat) : Nat → Nat
  | 0 => P
  | d + 1 => if l.any (impl_TrainOk.l4 s (P - (d + 1))) = true then P - (d + 1) else impl_Train_hole.l2 l s P d
def impl_Train_hole.f (a0_0 a0_1 : Int) (l0_2 : List S66) (a1 a2 a3 : Int) : Option Int :=
  if impl_TrainOk.l0 a0_0 a0_1 l0_2 = true ∧ (0 ≤ a1 ∧ a1 < a0_0) ∧ 0 ≤ a2 ∧ a2 ≤ a0_1 ∧ 0 ≤ a3 ∧ a3 ≤ a0_1 then
    some ((impl_Train_hole.l2 l0_2 a1.toNat a0_1.toNat (a0_1.toNat - a3.toNat) : Int) - (impl_Train_hole.l1 l0_2 a1.toNat a2.toNat : Int)) else none
def impl_Booking_86.l0 : Nat → List (S66) → Int → Int → Option ((List (S66)))
  | 0, _, _, _ => none
  | k + 1, x0, x2, x3 => if x2 < x3 then (if 0 ≤ x3 then (if x3 < (x0.length : Int) then (if 0 ≤ x2 then (if x2 < (x0.length : Int) then (impl_Booking_86.l0 k ((x0.set (x2 : Int).toNat (⟨(rd_T66 x0 x3).f0, (rd_T66 x0 x3).f1, (rd_T66 x0 x3).f2, (rd_T66 x0 x3).f3⟩ : S66)).set (x3 : Int).toNat (⟨(rd_T66 x0 x2).f0, (rd_T66 x0 x2).f1, (rd_T66 x0 x2).f2, (rd_T66 x0 x2).f3⟩ : S66)) (wrap64 (x2 + 1)) (wrap64 (x3 - 1))) else (none)) else (none)) else (none)) else (none)) else (some x0)
def impl_Booking_86.f (k : Nat) (l0 : List (S66)) : Option ((List (S66))) := impl_Booking_86.l0 k l0 0 (wrap64 ((l0.length : Int) - 1))
def impl_Book.l5 (l : List S66) (i : Nat) (y : S66) : List S66 := l.take i ++ y :: l.drop i
def impl_Book.l0 (h : Int → Int) : List Int → Int → Int → Int × Int
  | [], b, m => (b, m)
  | s :: t, b, m => if b < 0 ∨ h s < m then impl_Book.l0 h t s (h s) else impl_Book.l0 h t b m
def impl_Book.l1 (a b : Int) (l : List S66) (x y s : Int) : Int := (impl_Train_hole.l2 l s.toNat b.toNat (b.toNat - y.toNat) : Int) - (impl_Train_hole.l1 l s.toNat x.toNat : Int)
def impl_Book.l2 (id : Int) : List S66 → Nat
  | [] => 0
  | o :: t => if o.f0 < id then impl_Book.l2 id t + 1 else 0
def impl_Book.l3 (a b : Int) (l : List S66) (x y : Int) : Int := (impl_Book.l0 (impl_Book.l1 a b l x y) (impl_Train_freeSeats.l1 l a.toNat x.toNat y.toNat) (-1) 0).1
def impl_Book.l4 (a b : Int) (l : List S66) (id x y : Int) : Bool := decide (0 < id) && decide (impl_Unbook.l1 l id < 0) && decide (0 ≤ x ∧ x < y ∧ y ≤ b) && !decide (l.length = 200) && decide (0 ≤ impl_Book.l3 a b l x y)
def impl_Book.l6 (a b : Int) (l : List S66) (id x y : Int) : List S66 × Int :=
  if impl_Book.l4 a b l id x y = true then (impl_Book.l5 l (impl_Book.l2 id l) ⟨id, impl_Book.l3 a b l x y, x, y⟩, impl_Book.l3 a b l x y) else (l, -1)
def impl_PlaySales.l0 (a b : Int) (l : List S66) (s : S56) : List S66 × Int :=
  if s.f0 = 0 then impl_Book.l6 a b l s.f1 s.f2 s.f3 else if s.f0 = 1 then (impl_Unbook.l0 l s.f1, if 0 ≤ impl_Unbook.l1 l s.f1 then 0 else -1) else (l, -1)
def impl_PlaySales.l1 (a b : Int) : List S56 → List S66 → List S66 × List Int
  | [], l => (l, [])
  | s :: t, l => ((impl_PlaySales.l1 a b t (impl_PlaySales.l0 a b l s).1).1, (impl_PlaySales.l0 a b l s).2 :: (impl_PlaySales.l1 a b t (impl_PlaySales.l0 a b l s).1).2)
def impl_PlaySales.f (a0_0 a0_1 : Int) (l0_2 : List S66) (l1 : List S56) : Option (Int × Int × List S66 × List Int) :=
  if l0_2.length < 4398046511104 then some (if impl_TrainOk.l0 a0_0 a0_1 l0_2 = true ∧ l1.length ≤ 200 then (a0_0, a0_1, (impl_PlaySales.l1 a0_0 a0_1 l1 l0_2).1, (impl_PlaySales.l1 a0_0 a0_1 l1 l0_2).2) else (a0_0, a0_1, l0_2, [])) else none
def laws_szSaleS.f (l0 : List (S86)) (a1 : Int) : Option (Int) := if (wrap64 (a1 - (l0.length : Int))) < 0 then (some (-1)) else (some (wrap64 (a1 - (l0.length : Int))))
def spec_l01In.f (a0 : Int) (a1 : Int) (a2 : Int) : Option (Bool) := if a1 ≤ a0 then (some (decide (a0 ≤ a2))) else (some false)
mutual
def spec_TrainOk.j0 : Nat → Bool → Int → Int → List (S66) → Option (Bool)
  | 0, _, _, _, _ => none
  | k + 1, x22, x166000, x166001, x166002 => if x22 = true then (some false) else (spec_TrainOk.l0 k 0 x166000 x166001 x166002)
def spec_TrainOk.l0 : Nat → Int → Int → Int → List (S66) → Option (Bool)
  | 0, _, _, _, _ => none
  | k + 1, x3, x166000, x166001, x166002 => if x3 < (x166002.length : Int) then (if 0 ≤ x3 then (if ((rd_T66 x166002 x3).f0) ≤ 0 then (spec_TrainOk.j2 k x3 true x166000 x166001 x166002 ((rd_T66 x166002 x3).f0) ((rd_T66 x166002 x3).f1) ((rd_T66 x166002 x3).f2) ((rd_T66 x166002 x3).f3)) else (if x3 > 0 then (if 0 ≤ (wrap64 (x3 - 1)) then (if (wrap64 (x3 - 1)) < (x166002.length : Int) then (if ((rd_T66 x166002 (wrap64 (x3 - 1))).f0) ≥ ((rd_T66 x166002 x3).f0) then (spec_TrainOk.j2 k x3 true x166000 x166001 x166002 ((rd_T66 x166002 x3).f0) ((rd_T66 x166002 x3).f1) ((rd_T66 x166002 x3).f2) ((rd_T66 x166002 x3).f3)) else ((spec_l01In.f ((rd_T66 x166002 x3).f1) 0 (wrap64 (x166000 - 1))).bind fun t171 => (if t171 = true then ((spec_l01In.f ((rd_T66 x166002 x3).f3) 1 x166001).bind fun t172 => (if t172 = true then ((spec_l01In.f ((rd_T66 x166002 x3).f2) 0 (wrap64 (((rd_T66 x166002 x3).f3) - 1))).bind fun t173 => (spec_TrainOk.j2 k x3 (!t173) x166000 x166001 x166002 ((rd_T66 x166002 x3).f0) ((rd_T66 x166002 x3).f1) ((rd_T66 x166002 x3).f2) ((rd_T66 x166002 x3).f3))) else (spec_TrainOk.j2 k x3 true x166000 x166001 x166002 ((rd_T66 x166002 x3).f0) ((rd_T66 x166002 x3).f1) ((rd_T66 x166002 x3).f2) ((rd_T66 x166002 x3).f3)))) else (spec_TrainOk.j2 k x3 true x166000 x166001 x166002 ((rd_T66 x166002 x3).f0) ((rd_T66 x166002 x3).f1) ((rd_T66 x166002 x3).f2) ((rd_T66 x166002 x3).f3))))) else (none)) else (none)) else ((spec_l01In.f ((rd_T66 x166002 x3).f1) 0 (wrap64 (x166000 - 1))).bind fun t174 => (if t174 = true then ((spec_l01In.f ((rd_T66 x166002 x3).f3) 1 x166001).bind fun t175 => (if t175 = true then ((spec_l01In.f ((rd_T66 x166002 x3).f2) 0 (wrap64 (((rd_T66 x166002 x3).f3) - 1))).bind fun t176 => (spec_TrainOk.j2 k x3 (!t176) x166000 x166001 x166002 ((rd_T66 x166002 x3).f0) ((rd_T66 x166002 x3).f1) ((rd_T66 x166002 x3).f2) ((rd_T66 x166002 x3).f3))) else (spec_TrainOk.j2 k x3 true x166000 x166001 x166002 ((rd_T66 x166002 x3).f0) ((rd_T66 x166002 x3).f1) ((rd_T66 x166002 x3).f2) ((rd_T66 x166002 x3).f3)))) else (spec_TrainOk.j2 k x3 true x166000 x166001 x166002 ((rd_T66 x166002 x3).f0) ((rd_T66 x166002 x3).f1) ((rd_T66 x166002 x3).f2) ((rd_T66 x166002 x3).f3)))))) else (none)) else (some true)
def spec_TrainOk.j2 : Nat → Int → Bool → Int → Int → List (S66) → Int → Int → Int → Int → Option (Bool)
  | 0, _, _, _, _, _, _, _, _, _ => none
  | k + 1, x3, x79, x166000, x166001, x166002, x170000, x170001, x170002, x170003 => if x79 = true then (some false) else (spec_TrainOk.l1 k x3 0 x166000 x166001 x166002 x170000 x170001 x170002 x170003)
def spec_TrainOk.l1 : Nat → Int → Int → Int → Int → List (S66) → Int → Int → Int → Int → Option (Bool)
  | 0, _, _, _, _, _, _, _, _, _ => none
  | k + 1, x3, x5, x166000, x166001, x166002, x170000, x170001, x170002, x170003 => if x5 < x3 then (if 0 ≤ x5 then (if x5 < (x166002.length : Int) then (if ((rd_T66 x166002 x5).f1) = x170001 then (if ((rd_T66 x166002 x5).f2) < x170003 then (if x170002 < ((rd_T66 x166002 x5).f3) then (some false) else (spec_TrainOk.l1 k x3 (wrap64 (x5 + 1)) x166000 x166001 x166002 x170000 x170001 x170002 x170003)) else (spec_TrainOk.l1 k x3 (wrap64 (x5 + 1)) x166000 x166001 x166002 x170000 x170001 x170002 x170003)) else (spec_TrainOk.l1 k x3 (wrap64 (x5 + 1)) x166000 x166001 x166002 x170000 x170001 x170002 x170003)) else (none)) else (none)) else (spec_TrainOk.l0 k (wrap64 (x3 + 1)) x166000 x166001 x166002)
end
def spec_TrainOk.f (k : Nat) (a0_0 : Int) (a0_1 : Int) (l0_2 : List (S66)) : Option (Bool) := (spec_l01In.f a0_0 1 60).bind fun t166 => (if t166 = true then ((spec_l01In.f a0_1 1 11).bind fun t167 => (if t167 = true then (spec_TrainOk.j0 k (decide ((l0_2.length : Int) > 200)) a0_0 a0_1 l0_2) else (spec_TrainOk.j0 k true a0_0 a0_1 l0_2))) else (spec_TrainOk.j0 k true a0_0 a0_1 l0_2))
def spec_l14Same.l0 : Nat → Int → Int → Int → List (S66) → Int → Int → List (S66) → Option (Int × Int × (List (S66)))
  | 0, _, _, _, _, _, _, _ => none
  | k + 1, x4, x180000, x180001, x180002, x182000, x182001, x182002 => if x4 < (x180002.length : Int) then (if 0 ≤ x4 then (if x182002.length < 4398046511104 then (spec_l14Same.l0 k (wrap64 (x4 + 1)) x180000 x180001 x180002 x182000 x182001 (x182002 ++ [(⟨(rd_T66 x180002 x4).f0, (rd_T66 x180002 x4).f1, (rd_T66 x180002 x4).f2, (rd_T66 x180002 x4).f3⟩ : S66)])) else (none)) else (none)) else (some (x182000, x182001, x182002))
def spec_l14Same.f (k : Nat) (a0_0 : Int) (a0_1 : Int) (l0_2 : List (S66)) : Option (Int × Int × (List (S66))) := spec_l14Same.l0 k 0 a0_0 a0_1 l0_2 a0_0 a0_1 ([] : List (S66))
mutual
def spec_l14Held.l0 : Nat → Int → Bool → Int → Int → Int → List (S66) → Int → Int → Int → Int → Int → Int → List (S66) → Option (Int × Int × (List (S66)))
  | 0, _, _, _, _, _, _, _, _, _, _, _, _, _ => none
  | k + 1, x1, x8, x9, x187000, x187001, x187002, x188000, x188001, x188002, x188003, x190000, x190001, x190002 => if x9 < (x187002.length : Int) then (if x8 = true then (spec_l14Held.j1 k x1 x8 x9 false x187000 x187001 x187002 x188000 x188001 x188002 x188003 x190000 x190001 x190002) else (if 0 ≤ x9 then (spec_l14Held.j1 k x1 x8 x9 (decide (((rd_T66 x187002 x9).f0) > x188000)) x187000 x187001 x187002 x188000 x188001 x188002 x188003 x190000 x190001 x190002) else (none))) else (if x8 = true then (some (x190000, x190001, x190002)) else (if x190002.length < 4398046511104 then (some (x190000, x190001, (x190002 ++ [(⟨x188000, x188001, x188002, x188003⟩ : S66)]))) else (none)))
def spec_l14Held.j1 : Nat → Int → Bool → Int → Bool → Int → Int → List (S66) → Int → Int → Int → Int → Int → Int → List (S66) → Option (Int × Int × (List (S66)))
  | 0, _, _, _, _, _, _, _, _, _, _, _, _, _, _ => none
  | k + 1, x1, x8, x9, x37, x187000, x187001, x187002, x188000, x188001, x188002, x188003, x190000, x190001, x190002 => if x37 = true then (if x190002.length < 4398046511104 then ((some (x190002 ++ [(⟨x188000, x188001, x188002, x188003⟩ : S66)] : List (S66))).bind fun y194 => (if 0 ≤ x9 then (if x9 < (x187002.length : Int) then (if ((rd_T66 x187002 x9).f0) = x1 then (spec_l14Held.l0 k x1 true (wrap64 (x9 + 1)) x187000 x187001 x187002 x188000 x188001 x188002 x188003 x190000 x190001 y194) else (if y194.length < 4398046511104 then (spec_l14Held.l0 k x1 true (wrap64 (x9 + 1)) x187000 x187001 x187002 x188000 x188001 x188002 x188003 x190000 x190001 (y194 ++ [(⟨(rd_T66 x187002 x9).f0, (rd_T66 x187002 x9).f1, (rd_T66 x187002 x9).f2, (rd_T66 x187002 x9).f3⟩ : S66)])) else (none))) else (none)) else (none))) else (none)) else (if 0 ≤ x9 then (if x9 < (x187002.length : Int) then (if ((rd_T66 x187002 x9).f0) = x1 then (spec_l14Held.l0 k x1 x8 (wrap64 (x9 + 1)) x187000 x187001 x187002 x188000 x188001 x188002 x188003 x190000 x190001 x190002) else (if x190002.length < 4398046511104 then (spec_l14Held.l0 k x1 x8 (wrap64 (x9 + 1)) x187000 x187001 x187002 x188000 x188001 x188002 x188003 x190000 x190001 (x190002 ++ [(⟨(rd_T66 x187002 x9).f0, (rd_T66 x187002 x9).f1, (rd_T66 x187002 x9).f2, (rd_T66 x187002 x9).f3⟩ : S66)])) else (none))) else (none)) else (none))
end
def spec_l14Held.f (k : Nat) (a0_0 : Int) (a0_1 : Int) (l0_2 : List (S66)) (a1 : Int) (a2_0 : Int) (a2_1 : Int) (a2_2 : Int) (a2_3 : Int) : Option (Int × Int × (List (S66))) := spec_l14Held.l0 k a1 (a2_0 == 0) 0 a0_0 a0_1 l0_2 a2_0 a2_1 a2_2 a2_3 a0_0 a0_1 ([] : List (S66))
def spec_Unbook.l0 : Nat → Int → Int → Int → Int → List (S66) → Option (Int × Int × (List (S66)) × Bool)
  | 0, _, _, _, _, _ => none
  | k + 1, x1, x6, x208000, x208001, x208002 => if x6 < (x208002.length : Int) then (if 0 ≤ x6 then (if ((rd_T66 x208002 x6).f0) = x1 then ((spec_l14Held.f k x208000 x208001 x208002 x1 0 0 0 0).bind fun bt216 => (some (bt216.1, bt216.2.1, bt216.2.2, true))) else (spec_Unbook.l0 k x1 (wrap64 (x6 + 1)) x208000 x208001 x208002)) else (none)) else ((spec_l14Same.f k x208000 x208001 x208002).bind fun bt221 => (some (bt221.1, bt221.2.1, bt221.2.2, false)))
def spec_Unbook.f (k : Nat) (a0_0 : Int) (a0_1 : Int) (l0_2 : List (S66)) (a1 : Int) : Option (Int × Int × (List (S66)) × Bool) := (spec_TrainOk.f k a0_0 a0_1 l0_2).bind fun t209 => (if t209 = true then (spec_Unbook.l0 k a1 0 a0_0 a0_1 l0_2) else ((spec_l14Same.f k a0_0 a0_1 l0_2).bind fun bt210 => (some (bt210.1, bt210.2.1, bt210.2.2, false))))
def spec_l14Asked.f (k : Nat) (a0_0 : Int) (a0_1 : Int) (l0_2 : List (S66)) (a1 : Int) (a2 : Int) : Option (Bool) := (spec_TrainOk.f k a0_0 a0_1 l0_2).bind fun t227 => (if t227 = true then ((spec_l01In.f a2 1 a0_1).bind fun t228 => (if t228 = true then ((spec_l01In.f a1 0 (wrap64 (a2 - 1))).bind fun t229 => (some t229)) else (some false))) else (some false))
def spec_l14Free.l0 : Nat → Int → Int → Int → Int → Int → List (S66) → Option (Bool)
  | 0, _, _, _, _, _, _ => none
  | k + 1, x1, x2, x7, x231000, x231001, x231002 => if x7 < (x231002.length : Int) then (if 0 ≤ x7 then (if ((rd_T66 x231002 x7).f1) = x1 then ((spec_l01In.f x2 ((rd_T66 x231002 x7).f2) (wrap64 (((rd_T66 x231002 x7).f3) - 1))).bind fun t234 => (if t234 = true then (some false) else (spec_l14Free.l0 k x1 x2 (wrap64 (x7 + 1)) x231000 x231001 x231002))) else (spec_l14Free.l0 k x1 x2 (wrap64 (x7 + 1)) x231000 x231001 x231002)) else (none)) else (some true)
def spec_l14Free.f (k : Nat) (a0_0 : Int) (a0_1 : Int) (l0_2 : List (S66)) (a1 : Int) (a2 : Int) : Option (Bool) := spec_l14Free.l0 k a1 a2 0 a0_0 a0_1 l0_2
mutual
def spec_FreeSeats.l0 : Nat → Int → Int → List Int → Int → Int → Int → List (S66) → Option (List Int)
  | 0, _, _, _, _, _, _, _ => none
  | k + 1, x1, x2, x7, x8, x236000, x236001, x236002 => if x8 < x236000 then (spec_FreeSeats.l1 k x1 x2 x7 x8 true x1 x236000 x236001 x236002) else (some x7)
def spec_FreeSeats.l1 : Nat → Int → Int → List Int → Int → Bool → Int → Int → Int → List (S66) → Option (List Int)
  | 0, _, _, _, _, _, _, _, _, _ => none
  | k + 1, x1, x2, x7, x8, x9, x10, x236000, x236001, x236002 => if x10 < x2 then ((spec_l14Free.f k x236000 x236001 x236002 x8 x10).bind fun t240 => (if t240 = true then (spec_FreeSeats.l1 k x1 x2 x7 x8 x9 (wrap64 (x10 + 1)) x236000 x236001 x236002) else (spec_FreeSeats.l1 k x1 x2 x7 x8 false (wrap64 (x10 + 1)) x236000 x236001 x236002))) else (if x9 = true then (if x7.length < 17592186044416 then (spec_FreeSeats.l0 k x1 x2 (x7 ++ [x8]) (wrap64 (x8 + 1)) x236000 x236001 x236002) else (none)) else (spec_FreeSeats.l0 k x1 x2 x7 (wrap64 (x8 + 1)) x236000 x236001 x236002))
end
def spec_FreeSeats.f (k : Nat) (a0_0 : Int) (a0_1 : Int) (l0_2 : List (S66)) (a1 : Int) (a2 : Int) : Option (List Int) := (spec_l14Asked.f k a0_0 a0_1 l0_2 a1 a2).bind fun t236 => (if t236 = true then (spec_FreeSeats.l0 k a1 a2 (([] : List Int)) 0 a0_0 a0_1 l0_2) else (some ([] : List Int)))
def spec_l01Has.l0 : Nat → List Int → Int → Int → Option (Bool)
  | 0, _, _, _ => none
  | k + 1, x0, x1, x5 => if x5 < (x0.length : Int) then (if 0 ≤ x5 then (if (rd x0 x5) = x1 then (some true) else (spec_l01Has.l0 k x0 x1 (wrap64 (x5 + 1)))) else (none)) else (some false)
def spec_l01Has.f (k : Nat) (l0 : List Int) (a1 : Int) : Option (Bool) := spec_l01Has.l0 k l0 a1 0
mutual
def spec_Hole.j1 : Nat → Int → Int → Int → Int → Int → List (S66) → Option (Int)
  | 0, _, _, _, _, _, _ => none
  | k + 1, x1, x2, x3, x246000, x246001, x246002 => spec_Hole.l1 k x1 x2 x3 x246000 x246001 x246002
def spec_Hole.l1 : Nat → Int → Int → Int → Int → Int → List (S66) → Option (Int)
  | 0, _, _, _, _, _, _ => none
  | k + 1, x1, x2, x3, x246000, x246001, x246002 => if x3 < x246001 then ((spec_l14Free.f k x246000 x246001 x246002 x1 x3).bind fun t251 => (if t251 = true then (spec_Hole.l1 k x1 x2 (wrap64 (x3 + 1)) x246000 x246001 x246002) else (some (wrap64 (x3 - x2))))) else (some (wrap64 (x3 - x2)))
def spec_Hole.l0 : Nat → Int → Int → Int → Int → Int → List (S66) → Option (Int)
  | 0, _, _, _, _, _, _ => none
  | k + 1, x1, x2, x3, x246000, x246001, x246002 => if x2 > 0 then ((spec_l14Free.f k x246000 x246001 x246002 x1 (wrap64 (x2 - 1))).bind fun t250 => (if t250 = true then (spec_Hole.l0 k x1 (wrap64 (x2 - 1)) x3 x246000 x246001 x246002) else (spec_Hole.j1 k x1 x2 x3 x246000 x246001 x246002))) else (spec_Hole.j1 k x1 x2 x3 x246000 x246001 x246002)
end
def spec_Hole.f (k : Nat) (a0_0 : Int) (a0_1 : Int) (l0_2 : List (S66)) (a1 : Int) (a2 : Int) (a3 : Int) : Option (Int) := (spec_FreeSeats.f k a0_0 a0_1 l0_2 a2 a3).bind fun t246 => ((spec_l01Has.f k t246 a1).bind fun t249 => (if t249 = true then (spec_Hole.l0 k a1 a2 a3 a0_0 a0_1 l0_2) else (some 0)))
mutual
def spec_Book.j0 : Nat → Int → Int → Int → Bool → Int → Int → List (S66) → Int → Int → List (S66) → Option (Int × Int × (List (S66)) × Int)
  | 0, _, _, _, _, _, _, _, _, _, _ => none
  | k + 1, x1, x2, x3, x32, x253000, x253001, x253002, x260000, x260001, x260002 => if x32 = true then ((spec_l14Same.f k x253000 x253001 x253002).bind fun bt261 => (some (bt261.1, bt261.2.1, bt261.2.2, (-1)))) else (spec_Book.l0 k x1 x2 x3 0 x253000 x253001 x253002 x260000 x260001 x260002)
def spec_Book.l0 : Nat → Int → Int → Int → Int → Int → Int → List (S66) → Int → Int → List (S66) → Option (Int × Int × (List (S66)) × Int)
  | 0, _, _, _, _, _, _, _, _, _, _ => none
  | k + 1, x1, x2, x3, x11, x253000, x253001, x253002, x260000, x260001, x260002 => if x11 < (x253002.length : Int) then (if 0 ≤ x11 then (if ((rd_T66 x253002 x11).f0) = x1 then (some (x260000, x260001, x260002, (-1))) else (spec_Book.l0 k x1 x2 x3 (wrap64 (x11 + 1)) x253000 x253001 x253002 x260000 x260001 x260002)) else (none)) else ((spec_FreeSeats.f k x253000 x253001 x253002 x2 x3).bind fun t267 => (spec_Book.l1 k x1 x2 x3 t267 (-1) 0 x253000 x253001 x253002 x260000 x260001 x260002))
def spec_Book.l1 : Nat → Int → Int → Int → List Int → Int → Int → Int → Int → List (S66) → Int → Int → List (S66) → Option (Int × Int × (List (S66)) × Int)
  | 0, _, _, _, _, _, _, _, _, _, _, _, _ => none
  | k + 1, x1, x2, x3, x12, x13, x14, x253000, x253001, x253002, x260000, x260001, x260002 => if x14 < (x12.length : Int) then (if x13 < 0 then (if 0 ≤ x14 then (spec_Book.l1 k x1 x2 x3 x12 (rd x12 x14) (wrap64 (x14 + 1)) x253000 x253001 x253002 x260000 x260001 x260002) else (none)) else (if 0 ≤ x14 then ((spec_Hole.f k x253000 x253001 x253002 (rd x12 x14) x2 x3).bind fun t277 => ((spec_Hole.f k x253000 x253001 x253002 x13 x2 x3).bind fun t278 => (if t277 < t278 then (spec_Book.l1 k x1 x2 x3 x12 (rd x12 x14) (wrap64 (x14 + 1)) x253000 x253001 x253002 x260000 x260001 x260002) else (spec_Book.l1 k x1 x2 x3 x12 x13 (wrap64 (x14 + 1)) x253000 x253001 x253002 x260000 x260001 x260002)))) else (none))) else (if x13 < 0 then (some (x260000, x260001, x260002, (-1))) else ((spec_l14Held.f k x253000 x253001 x253002 0 x1 x13 x2 x3).bind fun bt270 => (some (bt270.1, bt270.2.1, bt270.2.2, x13))))
end
def spec_Book.f (k : Nat) (a0_0 : Int) (a0_1 : Int) (l0_2 : List (S66)) (a1 : Int) (a2 : Int) (a3 : Int) : Option (Int × Int × (List (S66)) × Int) := (spec_l14Held.f k a0_0 a0_1 l0_2 0 0 0 0 0).bind fun bt254 => ((spec_l14Asked.f k a0_0 a0_1 l0_2 a2 a3).bind fun t260 => (if t260 = true then (if a1 ≤ 0 then (spec_Book.j0 k a1 a2 a3 true a0_0 a0_1 l0_2 bt254.1 bt254.2.1 bt254.2.2) else (spec_Book.j0 k a1 a2 a3 (decide ((l0_2.length : Int) ≥ 200)) a0_0 a0_1 l0_2 bt254.1 bt254.2.1 bt254.2.2)) else (spec_Book.j0 k a1 a2 a3 true a0_0 a0_1 l0_2 bt254.1 bt254.2.1 bt254.2.2)))
mutual
def spec_PlaySales.j0 : Nat → List (S56) → Bool → Int → Int → List (S66) → Option (Int × Int × (List (S66)) × List Int)
  | 0, _, _, _, _, _ => none
  | k + 1, x1, x20, x281000, x281001, x281002 => if x20 = true then ((spec_l14Same.f k x281000 x281001 x281002).bind fun bt283 => (some (bt283.1, bt283.2.1, bt283.2.2, ([] : List Int)))) else ((spec_l14Same.f k x281000 x281001 x281002).bind fun bt288 => (spec_PlaySales.l0 k x1 (([] : List Int)) 0 bt288.1 bt288.2.1 bt288.2.2))
def spec_PlaySales.l0 : Nat → List (S56) → List Int → Int → Int → Int → List (S66) → Option (Int × Int × (List (S66)) × List Int)
  | 0, _, _, _, _, _, _ => none
  | k + 1, x1, x7, x8, x294000, x294001, x294002 => if x8 < (x1.length : Int) then (if 0 ≤ x8 then (if ((rd_T56 x1 x8).f0) = 0 then ((spec_Book.f k x294000 x294001 x294002 ((rd_T56 x1 x8).f1) ((rd_T56 x1 x8).f2) ((rd_T56 x1 x8).f3)).bind fun bt299 => (spec_PlaySales.j2 k x1 x7 x8 bt299.2.2.2 bt299.1 bt299.2.1 bt299.2.2.1 ((rd_T56 x1 x8).f0) ((rd_T56 x1 x8).f1) ((rd_T56 x1 x8).f2) ((rd_T56 x1 x8).f3))) else (spec_PlaySales.j2 k x1 x7 x8 (-1) x294000 x294001 x294002 ((rd_T56 x1 x8).f0) ((rd_T56 x1 x8).f1) ((rd_T56 x1 x8).f2) ((rd_T56 x1 x8).f3))) else (none)) else (some (x294000, x294001, x294002, x7))
def spec_PlaySales.j2 : Nat → List (S56) → List Int → Int → Int → Int → Int → List (S66) → Int → Int → Int → Int → Option (Int × Int × (List (S66)) × List Int)
  | 0, _, _, _, _, _, _, _, _, _, _, _ => none
  | k + 1, x1, x7, x8, x10, x294000, x294001, x294002, x299000, x299001, x299002, x299003 => if x299000 = 1 then ((spec_Unbook.f k x294000 x294001 x294002 x299001).bind fun bt305 => (if bt305.2.2.2 = true then (if x7.length < 17592186044416 then (spec_PlaySales.l0 k x1 (x7 ++ [0]) (wrap64 (x8 + 1)) bt305.1 bt305.2.1 bt305.2.2.1) else (none)) else (if x7.length < 17592186044416 then (spec_PlaySales.l0 k x1 (x7 ++ [x10]) (wrap64 (x8 + 1)) bt305.1 bt305.2.1 bt305.2.2.1) else (none)))) else (if x7.length < 17592186044416 then (spec_PlaySales.l0 k x1 (x7 ++ [x10]) (wrap64 (x8 + 1)) x294000 x294001 x294002) else (none))
end
def spec_PlaySales.f (k : Nat) (a0_0 : Int) (a0_1 : Int) (l0_2 : List (S66)) (l1 : List (S56)) : Option (Int × Int × (List (S66)) × List Int) := (spec_TrainOk.f k a0_0 a0_1 l0_2).bind fun t282 => (if t282 = true then (spec_PlaySales.j0 k l1 (decide ((l1.length : Int) > 200)) a0_0 a0_1 l0_2) else (spec_PlaySales.j0 k l1 true a0_0 a0_1 l0_2))
def laws_toSale.f (a0_0 : Int) (a0_1 : Int) (a0_2 : Int) (a0_3 : Int) : Option (Int × Int × Int × Int) := some (a0_0, a0_1, a0_2, a0_3)
def laws_toSaleS.l0 : Nat → List (S86) → List (S56) → Int → Option ((List (S56)))
  | 0, _, _, _ => none
  | k + 1, x0, x3, x4 => if x4 < (x0.length : Int) then (if 0 ≤ x4 then ((laws_toSale.f ((rd_T86 x0 x4).f0) ((rd_T86 x0 x4).f1) ((rd_T86 x0 x4).f2) ((rd_T86 x0 x4).f3)).bind fun bt328 => (if x4 < (x3.length : Int) then (laws_toSaleS.l0 k x0 (x3.set (x4 : Int).toNat (⟨bt328.1, bt328.2.1, bt328.2.2.1, bt328.2.2.2⟩ : S56)) (wrap64 (x4 + 1))) else (none))) else (none)) else (some x3)
def laws_toSaleS.f (k : Nat) (l0 : List (S86)) : Option ((List (S56))) := if 0 ≤ (l0.length : Int) then (if ((l0.length : Int) : Int).toNat ≤ 8796093022208 then (laws_toSaleS.l0 k l0 (List.replicate ((l0.length : Int) : Int).toNat z56) 0) else (none)) else (none)
def laws_eqSale.f (a0_0 : Int) (a0_1 : Int) (a0_2 : Int) (a0_3 : Int) (a1_0 : Int) (a1_1 : Int) (a1_2 : Int) (a1_3 : Int) : Option (Bool) := if a0_0 = a1_0 then (if a0_1 = a1_1 then (if a0_2 = a1_2 then (if a0_3 = a1_3 then (some true) else (some false)) else (some false)) else (some false)) else (some false)
def laws_eqSaleS.l0 : Nat → List (S56) → List (S56) → Int → Option (Bool)
  | 0, _, _, _ => none
  | k + 1, x0, x1, x5 => if x5 < (x0.length : Int) then (if 0 ≤ x5 then (if x5 < (x1.length : Int) then ((laws_eqSale.f ((rd_T56 x0 x5).f0) ((rd_T56 x0 x5).f1) ((rd_T56 x0 x5).f2) ((rd_T56 x0 x5).f3) ((rd_T56 x1 x5).f0) ((rd_T56 x1 x5).f1) ((rd_T56 x1 x5).f2) ((rd_T56 x1 x5).f3)).bind fun t337 => (if t337 = true then (laws_eqSaleS.l0 k x0 x1 (wrap64 (x5 + 1))) else (some false))) else (none)) else (none)) else (some true)
def laws_eqSaleS.f (k : Nat) (l0 : List (S56)) (l1 : List (S56)) : Option (Bool) := if (l0.length : Int) = (l1.length : Int) then (laws_eqSaleS.l0 k l0 l1 0) else (some false)
def laws_markSaleS.l0 : Nat → List (S56) → Int → Int → Option (Int × (List (S56)))
  | 0, _, _, _ => none
  | k + 1, x0, x1, x5 => if x5 < (x0.length : Int) then (if 0 ≤ x5 then ((some (x0.set (x5 : Int).toNat (⟨x1, (rd_T56 x0 x5).f1, (rd_T56 x0 x5).f2, (rd_T56 x0 x5).f3⟩ : S56) : List (S56))).bind fun y338 => ((some (y338.set (x5 : Int).toNat (⟨(rd_T56 y338 x5).f0, wrap64 (x1 + 1), (rd_T56 y338 x5).f2, (rd_T56 y338 x5).f3⟩ : S56) : List (S56))).bind fun y339 => ((some (y339.set (x5 : Int).toNat (⟨(rd_T56 y339 x5).f0, (rd_T56 y339 x5).f1, wrap64 ((wrap64 (x1 + 1)) + 1), (rd_T56 y339 x5).f3⟩ : S56) : List (S56))).bind fun y340 => (laws_markSaleS.l0 k (y340.set (x5 : Int).toNat (⟨(rd_T56 y340 x5).f0, (rd_T56 y340 x5).f1, (rd_T56 y340 x5).f2, wrap64 ((wrap64 ((wrap64 (x1 + 1)) + 1)) + 1)⟩ : S56)) (wrap64 ((wrap64 ((wrap64 ((wrap64 (x1 + 1)) + 1)) + 1)) + 1)) (wrap64 (x5 + 1)))))) else (none)) else (some (x1, x0))
def laws_markSaleS.f (k : Nat) (l0 : List (S56)) (a1 : Int) : Option (Int × (List (S56))) := laws_markSaleS.l0 k l0 a1 0
mutual
def laws_FnExactPlaySales.j0 : Nat → List (S86) → List Int → List (S56) → List Int → Bool → Int → Int → List (S89) → Int → Int → List (S66) → Int → Int → List (S66) → Int → Int → List (S66) → Option (Bool)
  | 0, _, _, _, _, _, _, _, _, _, _, _, _, _, _, _, _, _ => none
  | k + 1, x1, x7, x9, x11, x54, x343000, x343001, x343002, x362000, x362001, x362002, x368000, x368001, x368002, x380000, x380001, x380002 => if x54 = true then (some false) else ((laws_toTrain.f k x343000 x343001 x343002).bind fun bt382 => ((laws_eqTrain.f k x368000 x368001 x368002 bt382.1 bt382.2.1 bt382.2.2).bind fun t387 => (if t387 = true then ((laws_toSaleS.f k x1).bind fun t388 => ((laws_eqSaleS.f k x9 t388).bind fun t391 => (if t391 = true then ((laws_markTrain.f k x368000 x368001 x368002 1).bind fun bt392 => ((laws_markSaleS.f k x9 bt392.1).bind fun bt394 => (if bt394.1 < 0 then (laws_FnExactPlaySales.j1 k x1 x7 x11 true x343000 x343001 x343002 x362000 x362001 x362002 x380000 x380001 x380002) else ((laws_eqTrain.f k x380000 x380001 x380002 x362000 x362001 x362002).bind fun t396 => (if t396 = true then ((laws_eqIntS.f k x11 x7).bind fun t397 => (laws_FnExactPlaySales.j1 k x1 x7 x11 (!t397) x343000 x343001 x343002 x362000 x362001 x362002 x380000 x380001 x380002)) else (laws_FnExactPlaySales.j1 k x1 x7 x11 true x343000 x343001 x343002 x362000 x362001 x362002 x380000 x380001 x380002)))))) else (some false)))) else (some false))))
def laws_FnExactPlaySales.j1 : Nat → List (S86) → List Int → List Int → Bool → Int → Int → List (S89) → Int → Int → List (S66) → Int → Int → List (S66) → Option (Bool)
  | 0, _, _, _, _, _, _, _, _, _, _, _, _, _ => none
  | k + 1, x1, x7, x11, x84, x343000, x343001, x343002, x362000, x362001, x362002, x380000, x380001, x380002 => if x84 = true then (some false) else ((laws_markTrain.f k x380000 x380001 x380002 1).bind fun bt398 => ((laws_markIntS.f k x11 bt398.1).bind fun bt400 => ((laws_heldTrain.f k x380000 x380001 bt398.2 1).bind fun t402 => (if t402 < 0 then (some false) else ((laws_heldIntS.f k bt400.2 t402).bind fun t403 => (if t403 < 0 then (some false) else (if t403 = bt400.1 then ((laws_toTrain.f k x343000 x343001 x343002).bind fun bt404 => ((laws_toSaleS.f k x1).bind fun t409 => ((impl_PlaySales.f bt404.1 bt404.2.1 bt404.2.2 t409).bind fun bt412 => ((laws_eqTrain.f k bt412.1 bt412.2.1 bt412.2.2.1 x362000 x362001 x362002).bind fun t421 => (if t421 = true then ((laws_eqIntS.f k bt412.2.2.2 x7).bind fun t422 => (laws_FnExactPlaySales.j2 k bt400.2 bt400.1 (!t422) x380000 x380001 bt398.2)) else (laws_FnExactPlaySales.j2 k bt400.2 bt400.1 true x380000 x380001 bt398.2)))))) else (some false))))))))
def laws_FnExactPlaySales.j2 : Nat → List Int → Int → Bool → Int → Int → List (S66) → Option (Bool)
  | 0, _, _, _, _, _, _ => none
  | k + 1, x11, x13, x121, x380000, x380001, x380002 => if x121 = true then (some false) else ((laws_heldTrain.f k x380000 x380001 x380002 1).bind fun t423 => (if t423 < 0 then (some false) else ((laws_heldIntS.f k x11 t423).bind fun t424 => (if t424 < 0 then (some false) else (if t424 = x13 then (some true) else (some false))))))
end
def laws_FnExactPlaySales.f (k : Nat) (a0_0 : Int) (a0_1 : Int) (l0_2 : List (S89)) (l1 : List (S86)) : Option (Bool) := (laws_szTrain.f a0_0 a0_1 l0_2 1048576).bind fun t343 => (if t343 < 0 then (some true) else ((laws_szSaleS.f l1 t343).bind fun t344 => (if t344 < 0 then (some true) else ((laws_toTrain.f k a0_0 a0_1 l0_2).bind fun bt345 => ((laws_toSaleS.f k l1).bind fun t350 => ((spec_PlaySales.f k bt345.1 bt345.2.1 bt345.2.2 t350).bind fun bt353 => ((laws_toTrain.f k a0_0 a0_1 l0_2).bind fun bt362 => ((laws_toSaleS.f k l1).bind fun t368 => ((impl_PlaySales.f bt362.1 bt362.2.1 bt362.2.2 t368).bind fun bt371 => ((laws_eqTrain.f k bt371.1 bt371.2.1 bt371.2.2.1 bt353.1 bt353.2.1 bt353.2.2.1).bind fun t380 => (if t380 = true then ((laws_eqIntS.f k bt371.2.2.2 bt353.2.2.2).bind fun t381 => (laws_FnExactPlaySales.j0 k l1 bt353.2.2.2 t368 bt371.2.2.2 (!t381) a0_0 a0_1 l0_2 bt353.1 bt353.2.1 bt353.2.2.1 bt362.1 bt362.2.1 bt362.2.2 bt371.1 bt371.2.1 bt371.2.2.1)) else (laws_FnExactPlaySales.j0 k l1 bt353.2.2.2 t368 bt371.2.2.2 true a0_0 a0_1 l0_2 bt353.1 bt353.2.1 bt353.2.2.1 bt362.1 bt362.2.1 bt362.2.2 bt371.1 bt371.2.1 bt371.2.2.1))))))))))))
end Go.Proofs.Ytklikbjlfaednaa.P

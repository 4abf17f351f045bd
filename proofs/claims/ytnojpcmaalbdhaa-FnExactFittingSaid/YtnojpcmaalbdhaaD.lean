/- The functions of the program as plain Lean functions, without memory and machine; written by a program of the session. -/
import Derived.Test.YtnojpcmaalbdhaaProg
import Derived.Test.YtnojpcmaalbdhaaV
namespace Go.Proofs.Ytnojpcmaalbdhaa.P
open Go.RowKit Go.Proofs.YtnojpcmaalbdhaaW.PrintWords Go.Proofs.YtnojpcmaalbdhaaW.PrintLast Go.Proofs.YtnojpcmaalbdhaaW.PrintMore
set_option linter.unusedVariables false

structure S23 where
  f0 : Int
  f1 : Int
  f2 : Int
  f3 : Bool
def z23 : S23 := ⟨(0 : Int), (0 : Int), (0 : Int), false⟩
def rd_T23 (xs : List S23) (i : Int) : S23 := xs.getD i.toNat z23
structure S25 where
  f0 : Int
  f1 : Int
  f2 : Int
  f3 : Bool
def z25 : S25 := ⟨(0 : Int), (0 : Int), (0 : Int), false⟩
def rd_T25 (xs : List S25) (i : Int) : S25 := xs.getD i.toNat z25
def spec_Fitting.f (a0_0 : Int) (a0_1 : Int) (a0_2 : Int) (a0_3 : Bool) (a1_0 : Int) (a1_1 : Int) (a1_2 : Int) (a1_3 : Bool) : Option (Bool) := if a0_1 = a1_1 then (some true) else (if a0_1 ≤ 3 then (if a1_1 ≤ 3 then (some true) else (if a0_1 > 6 then (some (decide (a1_1 > 6))) else (some false))) else (if a0_1 > 6 then (some (decide (a1_1 > 6))) else (some false)))
def laws_toUnit.f (a0_0 : Int) (a0_1 : Int) (a0_2 : Int) (a0_3 : Bool) : Option (Int × Int × Int × Bool) := some (a0_0, a0_1, a0_2, a0_3)
def impl_Fitting.f (a0_0 : Int) (a0_1 : Int) (a0_2 : Int) (a0_3 : Bool) (a1_0 : Int) (a1_1 : Int) (a1_2 : Int) (a1_3 : Bool) : Option (Bool) := if a0_1 = a1_1 then (some true) else (if a0_1 ≤ 3 then (if a1_1 ≤ 3 then (some true) else (if a0_1 > 6 then (some (decide (a1_1 > 6))) else (some false))) else (if a0_1 > 6 then (some (decide (a1_1 > 6))) else (some false)))
def laws_FnExactFitting.f (a0_0 : Int) (a0_1 : Int) (a0_2 : Int) (a0_3 : Bool) (a1_0 : Int) (a1_1 : Int) (a1_2 : Int) (a1_3 : Bool) : Option (Bool) := (laws_toUnit.f a0_0 a0_1 a0_2 a0_3).bind fun bt110 => ((laws_toUnit.f a1_0 a1_1 a1_2 a1_3).bind fun bt114 => ((spec_Fitting.f bt110.1 bt110.2.1 bt110.2.2.1 bt110.2.2.2 bt114.1 bt114.2.1 bt114.2.2.1 bt114.2.2.2).bind fun t118 => ((laws_toUnit.f a0_0 a0_1 a0_2 a0_3).bind fun bt119 => ((laws_toUnit.f a1_0 a1_1 a1_2 a1_3).bind fun bt123 => ((impl_Fitting.f bt119.1 bt119.2.1 bt119.2.2.1 bt119.2.2.2 bt123.1 bt123.2.1 bt123.2.2.1 bt123.2.2.2).bind fun t127 => (if (t127 != t118) = true then (some false) else (some true)))))))
def laws_szUnitS.f (l0 : List (S23)) (a1 : Int) : Option (Int) := if (wrap64 (a1 - (l0.length : Int))) < 0 then (some (-1)) else (some (wrap64 (a1 - (l0.length : Int))))
def spec_l01In.f (a0 : Int) (a1 : Int) (a2 : Int) : Option (Bool) := if a1 ≤ a0 then (some (decide (a0 ≤ a2))) else (some false)
mutual
def spec_FormOk.l0 : Nat → List (S25) → Int → Option (Bool)
  | 0, _, _ => none
  | k + 1, x0, x3 => if x3 < (x0.length : Int) then (if 0 ≤ x3 then ((spec_l01In.f ((rd_T25 x0 x3).f0) 1 9999).bind fun t130 => (if t130 = true then ((spec_l01In.f ((rd_T25 x0 x3).f1) 1 9).bind fun t131 => (if t131 = true then ((spec_l01In.f ((rd_T25 x0 x3).f2) 1 200).bind fun t132 => (spec_FormOk.j1 k x0 x3 (!t132) ((rd_T25 x0 x3).f0) ((rd_T25 x0 x3).f1) ((rd_T25 x0 x3).f2) ((rd_T25 x0 x3).f3))) else (spec_FormOk.j1 k x0 x3 true ((rd_T25 x0 x3).f0) ((rd_T25 x0 x3).f1) ((rd_T25 x0 x3).f2) ((rd_T25 x0 x3).f3)))) else (spec_FormOk.j1 k x0 x3 true ((rd_T25 x0 x3).f0) ((rd_T25 x0 x3).f1) ((rd_T25 x0 x3).f2) ((rd_T25 x0 x3).f3)))) else (none)) else (some true)
def spec_FormOk.j1 : Nat → List (S25) → Int → Bool → Int → Int → Int → Bool → Option (Bool)
  | 0, _, _, _, _, _, _, _ => none
  | k + 1, x0, x3, x34, x130000, x130001, x130002, x130003 => if x34 = true then (some false) else (spec_FormOk.l1 k x0 x3 0 x130000 x130001 x130002 x130003)
def spec_FormOk.l1 : Nat → List (S25) → Int → Int → Int → Int → Int → Bool → Option (Bool)
  | 0, _, _, _, _, _, _, _ => none
  | k + 1, x0, x3, x5, x130000, x130001, x130002, x130003 => if x5 < x3 then (if 0 ≤ x5 then (if x5 < (x0.length : Int) then (if ((rd_T25 x0 x5).f0) = x130000 then (some false) else (spec_FormOk.l1 k x0 x3 (wrap64 (x5 + 1)) x130000 x130001 x130002 x130003)) else (none)) else (none)) else (spec_FormOk.l0 k x0 (wrap64 (x3 + 1)))
end
def spec_FormOk.f (k : Nat) (l0 : List (S25)) : Option (Bool) := if (l0.length : Int) > 30 then (some false) else (spec_FormOk.l0 k l0 0)
def laws_toUnitS.l0 : Nat → List (S23) → List (S25) → Int → Option ((List (S25)))
  | 0, _, _, _ => none
  | k + 1, x0, x3, x4 => if x4 < (x0.length : Int) then (if 0 ≤ x4 then ((laws_toUnit.f ((rd_T23 x0 x4).f0) ((rd_T23 x0 x4).f1) ((rd_T23 x0 x4).f2) ((rd_T23 x0 x4).f3)).bind fun bt138 => (if x4 < (x3.length : Int) then (laws_toUnitS.l0 k x0 (x3.set (x4 : Int).toNat (⟨bt138.1, bt138.2.1, bt138.2.2.1, bt138.2.2.2⟩ : S25)) (wrap64 (x4 + 1))) else (none))) else (none)) else (some x3)
def laws_toUnitS.f (k : Nat) (l0 : List (S23)) : Option ((List (S25))) := if 0 ≤ (l0.length : Int) then (if ((l0.length : Int) : Int).toNat ≤ 8796093022208 then (laws_toUnitS.l0 k l0 (List.replicate ((l0.length : Int) : Int).toNat z25) 0) else (none)) else (none)
def impl_between.f (a0 : Int) (a1 : Int) (a2 : Int) : Option (Bool) := if a0 ≥ a1 then (some (decide (a0 ≤ a2))) else (some false)
def laws_eqUnit.f (a0_0 : Int) (a0_1 : Int) (a0_2 : Int) (a0_3 : Bool) (a1_0 : Int) (a1_1 : Int) (a1_2 : Int) (a1_3 : Bool) : Option (Bool) := if a0_0 = a1_0 then (if a0_1 = a1_1 then (if a0_2 = a1_2 then (if (a0_3 != a1_3) = true then (some false) else (some true)) else (some false)) else (some false)) else (some false)
def laws_eqUnitS.l0 : Nat → List (S25) → List (S25) → Int → Option (Bool)
  | 0, _, _, _ => none
  | k + 1, x0, x1, x5 => if x5 < (x0.length : Int) then (if 0 ≤ x5 then (if x5 < (x1.length : Int) then ((laws_eqUnit.f ((rd_T25 x0 x5).f0) ((rd_T25 x0 x5).f1) ((rd_T25 x0 x5).f2) ((rd_T25 x0 x5).f3) ((rd_T25 x1 x5).f0) ((rd_T25 x1 x5).f1) ((rd_T25 x1 x5).f2) ((rd_T25 x1 x5).f3)).bind fun t156 => (if t156 = true then (laws_eqUnitS.l0 k x0 x1 (wrap64 (x5 + 1))) else (some false))) else (none)) else (none)) else (some true)
def laws_eqUnitS.f (k : Nat) (l0 : List (S25)) (l1 : List (S25)) : Option (Bool) := if (l0.length : Int) = (l1.length : Int) then (laws_eqUnitS.l0 k l0 l1 0) else (some false)
def spec_FormLen.l0 : Nat → List (S25) → Int → Int → Option (Int)
  | 0, _, _, _ => none
  | k + 1, x0, x3, x4 => if x4 < (x0.length : Int) then (if 0 ≤ x4 then (spec_FormLen.l0 k x0 (wrap64 (x3 + ((rd_T25 x0 x4).f2))) (wrap64 (x4 + 1))) else (none)) else (some x3)
def spec_FormLen.f (k : Nat) (l0 : List (S25)) : Option (Int) := (spec_FormOk.f k l0).bind fun t165 => (if t165 = true then (spec_FormLen.l0 k l0 0 0) else (some (-1)))
def spec_Runnable.l0 : Nat → List (S25) → Int → Option (Bool)
  | 0, _, _ => none
  | k + 1, x0, x3 => if x3 < (x0.length : Int) then (if 0 ≤ (wrap64 (x3 - 1)) then (if (wrap64 (x3 - 1)) < (x0.length : Int) then (if 0 ≤ x3 then ((spec_Fitting.f ((rd_T25 x0 (wrap64 (x3 - 1))).f0) ((rd_T25 x0 (wrap64 (x3 - 1))).f1) ((rd_T25 x0 (wrap64 (x3 - 1))).f2) ((rd_T25 x0 (wrap64 (x3 - 1))).f3) ((rd_T25 x0 x3).f0) ((rd_T25 x0 x3).f1) ((rd_T25 x0 x3).f2) ((rd_T25 x0 x3).f3)).bind fun t177 => (if t177 = true then (spec_Runnable.l0 k x0 (wrap64 (x3 + 1))) else (some false))) else (none)) else (none)) else (none)) else ((spec_FormOk.f k x0).bind fun t178 => (if t178 = true then (some (decide ((x0.length : Int) > 0))) else (some false)))
def spec_Runnable.f (k : Nat) (l0 : List (S25)) : Option (Bool) := spec_Runnable.l0 k l0 1
mutual
def spec_l15Join.l0 : Nat → List (S25) → List (S25) → List (S25) → Int → Option ((List (S25)))
  | 0, _, _, _, _ => none
  | k + 1, x0, x1, x5, x6 => if x6 < (x0.length : Int) then (if 0 ≤ x6 then (if x5.length < 4398046511104 then (spec_l15Join.l0 k x0 x1 (x5 ++ [(⟨(rd_T25 x0 x6).f0, (rd_T25 x0 x6).f1, (rd_T25 x0 x6).f2, (rd_T25 x0 x6).f3⟩ : S25)]) (wrap64 (x6 + 1))) else (none)) else (none)) else (spec_l15Join.l1 k x1 x5 0)
def spec_l15Join.l1 : Nat → List (S25) → List (S25) → Int → Option ((List (S25)))
  | 0, _, _, _ => none
  | k + 1, x1, x5, x7 => if x7 < (x1.length : Int) then (if 0 ≤ x7 then (if x5.length < 4398046511104 then (spec_l15Join.l1 k x1 (x5 ++ [(⟨(rd_T25 x1 x7).f0, (rd_T25 x1 x7).f1, (rd_T25 x1 x7).f2, (rd_T25 x1 x7).f3⟩ : S25)]) (wrap64 (x7 + 1))) else (none)) else (none)) else (some x5)
end
def spec_l15Join.f (k : Nat) (l0 : List (S25)) (l1 : List (S25)) : Option ((List (S25))) := spec_l15Join.l0 k l0 l1 (([] : List (S25))) 0
def spec_Part.j0 : Nat → List (S25) → Int → Bool → Option ((List (S25)) × (List (S25)))
  | 0, _, _, _ => none
  | k + 1, x0, x1, x15 => if x15 = true then (some (([] : List (S25)), ([] : List (S25)))) else (if 0 ≤ x1 then (if x1 ≤ (x0.length : Int) then ((spec_l15Join.f k (x0.take (x1 : Int).toNat) ([] : List (S25))).bind fun t204 => ((spec_l15Join.f k (x0.drop (x1 : Int).toNat) ([] : List (S25))).bind fun t211 => (some (t204, t211)))) else (none)) else (none))
def spec_Part.f (k : Nat) (l0 : List (S25)) (a1 : Int) : Option ((List (S25)) × (List (S25))) := (spec_FormOk.f k l0).bind fun t198 => (if t198 = true then ((spec_l01In.f a1 0 (l0.length : Int)).bind fun t199 => (spec_Part.j0 k l0 a1 (!t199))) else (spec_Part.j0 k l0 a1 true))
def impl_joined.f (l0 : List (S25)) (l1 : List (S25)) : Option ((List (S25))) := (some (([] : List (S25)) : List (S25))).bind fun y214 => (if y214.length + l0.length < 4398046511104 then ((some (y214 ++ l0 : List (S25))).bind fun y217 => (if y217.length + l1.length < 4398046511104 then (some (y217 ++ l1)) else (none))) else (none))
def laws_markUnitS.l0 : Nat → List (S25) → Int → Int → Option (Int × (List (S25)))
  | 0, _, _, _ => none
  | k + 1, x0, x1, x5 => if x5 < (x0.length : Int) then (if 0 ≤ x5 then ((some (x0.set (x5 : Int).toNat (⟨x1, (rd_T25 x0 x5).f1, (rd_T25 x0 x5).f2, (rd_T25 x0 x5).f3⟩ : S25) : List (S25))).bind fun y223 => ((some (y223.set (x5 : Int).toNat (⟨(rd_T25 y223 x5).f0, wrap64 (x1 + 1), (rd_T25 y223 x5).f2, (rd_T25 y223 x5).f3⟩ : S25) : List (S25))).bind fun y224 => ((some (y224.set (x5 : Int).toNat (⟨(rd_T25 y224 x5).f0, (rd_T25 y224 x5).f1, wrap64 ((wrap64 (x1 + 1)) + 1), (rd_T25 y224 x5).f3⟩ : S25) : List (S25))).bind fun y225 => (laws_markUnitS.l0 k (y225.set (x5 : Int).toNat (⟨(rd_T25 y225 x5).f0, (rd_T25 y225 x5).f1, (rd_T25 y225 x5).f2, ((Int.tmod (wrap64 ((wrap64 ((wrap64 (x1 + 1)) + 1)) + 1)) 3) == 0)⟩ : S25)) (wrap64 ((wrap64 ((wrap64 ((wrap64 (x1 + 1)) + 1)) + 1)) + 1)) (wrap64 (x5 + 1)))))) else (none)) else (some (x1, x0))
def laws_markUnitS.f (k : Nat) (l0 : List (S25)) (a1 : Int) : Option (Int × (List (S25))) := laws_markUnitS.l0 k l0 a1 0
def laws_heldUnitS.l0 : Nat → List (S25) → Int → Int → Option (Int)
  | 0, _, _, _ => none
  | k + 1, x0, x1, x5 => if x5 < (x0.length : Int) then (if 0 ≤ x5 then (if ((rd_T25 x0 x5).f0) = x1 then (if ((rd_T25 x0 x5).f1) = (wrap64 (x1 + 1)) then (if ((rd_T25 x0 x5).f2) = (wrap64 ((wrap64 (x1 + 1)) + 1)) then (if (((rd_T25 x0 x5).f3) != ((Int.tmod (wrap64 ((wrap64 ((wrap64 (x1 + 1)) + 1)) + 1)) 3) == 0)) = true then (some (-1)) else (laws_heldUnitS.l0 k x0 (wrap64 ((wrap64 ((wrap64 ((wrap64 (x1 + 1)) + 1)) + 1)) + 1)) (wrap64 (x5 + 1)))) else (some (-1))) else (some (-1))) else (some (-1))) else (none)) else (some x1)
def laws_heldUnitS.f (k : Nat) (l0 : List (S25)) (a1 : Int) : Option (Int) := laws_heldUnitS.l0 k l0 a1 0
def spec_Turn.l0 : Nat → List (S25) → List (S25) → Int → Option ((List (S25)))
  | 0, _, _, _ => none
  | k + 1, x0, x3, x4 => if x4 ≥ 0 then (if 0 ≤ x4 then (if x4 < (x0.length : Int) then (if x3.length < 4398046511104 then (spec_Turn.l0 k x0 (x3 ++ [(⟨(rd_T25 x0 x4).f0, (rd_T25 x0 x4).f1, (rd_T25 x0 x4).f2, !((rd_T25 x0 x4).f3)⟩ : S25)]) (wrap64 (x4 - 1))) else (none)) else (none)) else (none)) else (some x3)
def spec_Turn.f (k : Nat) (l0 : List (S25)) : Option ((List (S25))) := (spec_FormOk.f k l0).bind fun t244 => (if t244 = true then (spec_Turn.l0 k l0 (([] : List (S25))) (wrap64 ((l0.length : Int) - 1))) else (some ([] : List (S25))))
def impl_Unit_53.l0 : Nat → List (S25) → Int → Int → Option ((List (S25)))
  | 0, _, _, _ => none
  | k + 1, x0, x2, x3 => if x2 < x3 then (if 0 ≤ x3 then (if x3 < (x0.length : Int) then (if 0 ≤ x2 then (if x2 < (x0.length : Int) then (impl_Unit_53.l0 k ((x0.set (x2 : Int).toNat (⟨(rd_T25 x0 x3).f0, (rd_T25 x0 x3).f1, (rd_T25 x0 x3).f2, (rd_T25 x0 x3).f3⟩ : S25)).set (x3 : Int).toNat (⟨(rd_T25 x0 x2).f0, (rd_T25 x0 x2).f1, (rd_T25 x0 x2).f2, (rd_T25 x0 x2).f3⟩ : S25)) (wrap64 (x2 + 1)) (wrap64 (x3 - 1))) else (none)) else (none)) else (none)) else (none)) else (some x0)
def impl_Unit_53.f (k : Nat) (l0 : List (S25)) : Option ((List (S25))) := impl_Unit_53.l0 k l0 0 (wrap64 ((l0.length : Int) - 1))
def impl_turned.l0 : Nat → List (S25) → Int → Int → Option ((List (S25)))
  | 0, _, _, _ => none
  | k + 1, x3, x10, x11 => if x11 < x10 then (if 0 ≤ x11 then (if x11 < (x3.length : Int) then (impl_turned.l0 k (x3.set (x11 : Int).toNat (⟨(rd_T25 x3 x11).f0, (rd_T25 x3 x11).f1, (rd_T25 x3 x11).f2, !((rd_T25 x3 x11).f3)⟩ : S25)) x10 (wrap64 (x11 + 1))) else (none)) else (none)) else (some x3)
def impl_turned.f (k : Nat) (l0 : List (S25)) : Option ((List (S25))) := (impl_joined.f l0 ([] : List (S25))).bind fun t257 => ((impl_Unit_53.f k t257).bind fun t260 => (impl_turned.l0 k t260 (t257.length : Int) 0))
def spec_Couple.f (k : Nat) (l0 : List (S25)) (l1 : List (S25)) : Option ((List (S25)) × Bool) := (spec_Runnable.f k l0).bind fun t273 => (if t273 = true then ((spec_Runnable.f k l1).bind fun t274 => (if t274 = true then ((spec_l15Join.f k l0 l1).bind fun t275 => ((spec_Runnable.f k t275).bind fun t278 => (if t278 = true then ((spec_l15Join.f k l0 l1).bind fun t279 => (some (t279, true))) else (some (([] : List (S25)), false))))) else (some (([] : List (S25)), false)))) else (some (([] : List (S25)), false)))
mutual
def spec_Shunted.j0 : Nat → List (S25) → List Int → Bool → Option ((List (S25)))
  | 0, _, _, _ => none
  | k + 1, x0, x1, x17 => if x17 = true then (some ([] : List (S25))) else (spec_Shunted.l0 k x0 x1 0)
def spec_Shunted.l0 : Nat → List (S25) → List Int → Int → Option ((List (S25)))
  | 0, _, _, _ => none
  | k + 1, x0, x1, x5 => if x5 < (x1.length : Int) then (if 0 ≤ x5 then ((spec_l01In.f (rd x1 x5) 0 (x0.length : Int)).bind fun t302 => (if t302 = true then (spec_Shunted.l0 k x0 x1 (wrap64 (x5 + 1))) else (some ([] : List (S25))))) else (none)) else ((spec_l15Join.f k x0 ([] : List (S25))).bind fun t303 => (spec_Shunted.l1 k x1 t303 0))
def spec_Shunted.l1 : Nat → List Int → List (S25) → Int → Option ((List (S25)))
  | 0, _, _, _ => none
  | k + 1, x1, x6, x7 => if x7 < (x1.length : Int) then (if 0 ≤ x7 then ((spec_Part.f k x6 (rd x1 x7)).bind fun bt307 => ((spec_Turn.f k bt307.1).bind fun t313 => ((spec_l15Join.f k bt307.2 t313).bind fun t316 => (spec_Shunted.l1 k x1 t316 (wrap64 (x7 + 1)))))) else (none)) else (some x6)
end
def spec_Shunted.f (k : Nat) (l0 : List (S25)) (l1 : List Int) : Option ((List (S25))) := (spec_FormOk.f k l0).bind fun t300 => (if t300 = true then (spec_Shunted.j0 k l0 l1 (decide ((l1.length : Int) > 30))) else (spec_Shunted.j0 k l0 l1 true))
def laws_toIntS.l0 : Nat → List Int → List Int → Int → Option (List Int)
  | 0, _, _, _ => none
  | k + 1, x0, x3, x4 => if x4 < (x0.length : Int) then (if 0 ≤ x4 then (if x4 < (x3.length : Int) then (laws_toIntS.l0 k x0 (x3.set (x4 : Int).toNat (rd x0 x4)) (wrap64 (x4 + 1))) else (none)) else (none)) else (some x3)
def laws_toIntS.f (k : Nat) (l0 : List Int) : Option (List Int) := if 0 ≤ (l0.length : Int) then (if ((l0.length : Int) : Int).toNat ≤ 35184372088832 then (laws_toIntS.l0 k l0 (List.replicate ((l0.length : Int) : Int).toNat 0) 0) else (none)) else (none)
def laws_eqIntS.l0 : Nat → List Int → List Int → Int → Option (Bool)
  | 0, _, _, _ => none
  | k + 1, x0, x1, x5 => if x5 < (x0.length : Int) then (if 0 ≤ x5 then (if x5 < (x1.length : Int) then (if (rd x0 x5) = (rd x1 x5) then (laws_eqIntS.l0 k x0 x1 (wrap64 (x5 + 1))) else (some false)) else (none)) else (none)) else (some true)
def laws_eqIntS.f (k : Nat) (l0 : List Int) (l1 : List Int) : Option (Bool) := if (l0.length : Int) = (l1.length : Int) then (laws_eqIntS.l0 k l0 l1 0) else (some false)
def laws_markIntS.l0 : Nat → List Int → Int → Int → Option (Int × List Int)
  | 0, _, _, _ => none
  | k + 1, x0, x1, x5 => if x5 < (x0.length : Int) then (if 0 ≤ x5 then (laws_markIntS.l0 k (x0.set (x5 : Int).toNat x1) (wrap64 (x1 + 1)) (wrap64 (x5 + 1))) else (none)) else (some (x1, x0))
def laws_markIntS.f (k : Nat) (l0 : List Int) (a1 : Int) : Option (Int × List Int) := laws_markIntS.l0 k l0 a1 0
def laws_big.f (l0 : List Int) : Option (Bool) := some (decide ((l0.length : Int) > 1048576))
def spec_l01New.l0 : Nat → List Int → Int → Int → Option (List Int × Int × Int)
  | 0, _, _, _ => none
  | k + 1, x0, x3, x4 => if x4 < (x0.length : Int) then (if x4 < 4000 then (if 0 ≤ x4 then (spec_l01New.l0 k x0 (Go.bits .and .i64 (wrap64 ((wrap64 ((wrap64 (x3 * 137)) + (wrap64 (rd x0 x4)))) + 11)) 1073741823) (wrap64 (x4 + 1))) else (none)) else (some (x0, 0, x3))) else (some (x0, 0, x3))
def spec_l01New.f (k : Nat) (l0 : List Int) : Option (List Int × Int × Int) := spec_l01New.l0 k l0 (wrap64 (75075 + (l0.length : Int))) 0
def spec_l01Byte.f (s0_0 : List Int) (s0_1 : Int) (s0_2 : Int) : Option (Int × Int × Int) := if s0_1 < (s0_0.length : Int) then (if 0 ≤ s0_1 then (some (Go.bits .and .i64 (wrap64 ((Go.bits .and .i64 (Go.bits .xor .i64 ((wrap64 ((wrap64 (s0_2 * 6364136223846793005)) + 1442695040888963407)) / 8589934592) ((wrap64 ((wrap64 (s0_2 * 6364136223846793005)) + 1442695040888963407)) / 35184372088832)) 255) + (wrap64 (rd s0_0 s0_1)))) 255, wrap64 (s0_1 + 1), wrap64 ((wrap64 (s0_2 * 6364136223846793005)) + 1442695040888963407))) else (none)) else (some (Go.bits .and .i64 (Go.bits .xor .i64 ((wrap64 ((wrap64 (s0_2 * 6364136223846793005)) + 1442695040888963407)) / 8589934592) ((wrap64 ((wrap64 (s0_2 * 6364136223846793005)) + 1442695040888963407)) / 35184372088832)) 255, s0_1, wrap64 ((wrap64 (s0_2 * 6364136223846793005)) + 1442695040888963407)))
def spec_l01Below.f (s0_0 : List Int) (s0_1 : Int) (s0_2 : Int) (a1 : Int) : Option (Int × Int × Int) := if a1 ≤ 0 then (some (0, s0_1, s0_2)) else (if a1 ≤ 256 then ((spec_l01Byte.f s0_0 s0_1 s0_2).bind fun bt347 => (if a1 = 0 then (none) else (some (Int.tmod bt347.1 a1, bt347.2.1, bt347.2.2)))) else ((spec_l01Byte.f s0_0 s0_1 s0_2).bind fun bt350 => ((spec_l01Byte.f s0_0 bt350.2.1 bt350.2.2).bind fun bt353 => ((spec_l01Byte.f s0_0 bt353.2.1 bt353.2.2).bind fun bt356 => (if a1 = 0 then (none) else (some (Int.tmod (wrap64 ((wrap64 ((wrap64 (bt350.1 * 65536)) + (wrap64 (bt353.1 * 256)))) + bt356.1)) a1, bt356.2.1, bt356.2.2)))))))
def spec_l01Once.f (s0_0 : List Int) (s0_1 : Int) (s0_2 : Int) (a1 : Int) : Option (Bool × Int × Int) := (spec_l01Below.f s0_0 s0_1 s0_2 a1).bind fun bt359 => (some ((bt359.1 == 0), bt359.2.1, bt359.2.2))
def spec_l15DrawRight.l0 : Nat → Int → Int → Bool → List (S25) → Int → Int → List Int → Int → Int → Option ((List (S25)) × Int × Int)
  | 0, _, _, _, _, _, _, _, _, _ => none
  | k + 1, x1, x2, x3, x9, x10, x11, x1000, x1001, x1002 => if x11 < x1 then (if x3 = true then ((spec_l01Below.f x1000 x1001 x1002 3).bind fun bt368 => ((spec_l01Below.f x1000 bt368.2.1 bt368.2.2 40).bind fun bt371 => ((spec_l01Once.f x1000 bt371.2.1 bt371.2.2 3).bind fun bt374 => (if x9.length < 4398046511104 then (spec_l15DrawRight.l0 k x1 x2 x3 (x9 ++ [(⟨wrap64 ((wrap64 (x2 + (wrap64 (x11 * 3)))) + bt368.1), x10, wrap64 (10 + bt371.1), bt374.1⟩ : S25)]) x10 (wrap64 (x11 + 1)) x1000 bt374.2.1 bt374.2.2) else (none))))) else ((spec_l01Below.f x1000 x1001 x1002 9).bind fun bt380 => ((spec_l01Below.f x1000 bt380.2.1 bt380.2.2 3).bind fun bt383 => ((spec_l01Below.f x1000 bt383.2.1 bt383.2.2 40).bind fun bt386 => ((spec_l01Once.f x1000 bt386.2.1 bt386.2.2 3).bind fun bt389 => (if x9.length < 4398046511104 then (spec_l15DrawRight.l0 k x1 x2 x3 (x9 ++ [(⟨wrap64 ((wrap64 (x2 + (wrap64 (x11 * 3)))) + bt383.1), wrap64 (1 + bt380.1), wrap64 (10 + bt386.1), bt389.1⟩ : S25)]) (wrap64 (1 + bt380.1)) (wrap64 (x11 + 1)) x1000 bt389.2.1 bt389.2.2) else (none))))))) else (some (x9, x1001, x1002))
def spec_l15DrawRight.f (k : Nat) (s0_0 : List Int) (s0_1 : Int) (s0_2 : Int) (a1 : Int) (a2 : Int) (a3 : Bool) : Option ((List (S25)) × Int × Int) := (spec_l01Below.f s0_0 s0_1 s0_2 9).bind fun bt365 => (spec_l15DrawRight.l0 k a1 a2 a3 (([] : List (S25))) (wrap64 (1 + bt365.1)) 0 s0_0 bt365.2.1 bt365.2.2)
def spec_l01Size.f (l0 : List Int) (a1 : Int) : Option (Int) := if (wrap64 (2 + (wrap64 ((l0.length : Int) / 16)))) > a1 then (some a1) else (some (wrap64 (2 + (wrap64 ((l0.length : Int) / 16)))))
def spec_l01PickInt.f (s0_0 : List Int) (s0_1 : Int) (s0_2 : Int) (l1 : List Int) : Option (Int × Int × Int) := (spec_l01Below.f s0_0 s0_1 s0_2 (l1.length : Int)).bind fun bt395 => (if 0 ≤ bt395.1 then (if bt395.1 < (l1.length : Int) then (some (rd l1 bt395.1, bt395.2.1, bt395.2.2)) else (none)) else (none))
def spec_l15DrawAny.f (k : Nat) (s0_0 : List Int) (s0_1 : Int) (s0_2 : Int) (l1 : List Int) (a2 : Int) : Option ((List (S25)) × Int × Int) := (spec_l01Size.f l1 7).bind fun t399 => ((spec_l01Below.f s0_0 s0_1 s0_2 t399).bind fun bt400 => ((spec_l01Once.f s0_0 bt400.2.1 bt400.2.2 2).bind fun bt403 => ((spec_l15DrawRight.f k s0_0 bt403.2.1 bt403.2.2 bt400.1 a2 bt403.1).bind fun bt406 => ((spec_l01Below.f s0_0 bt406.2.1 bt406.2.2 25).bind fun bt411 => (if bt411.1 = 0 then ((spec_l01PickInt.f s0_0 bt411.2.1 bt411.2.2 (([0, 1, 9999, 10000] : List Int))).bind fun bt417 => ((spec_l01PickInt.f s0_0 bt417.2.1 bt417.2.2 (([0, 1, 9, 10] : List Int))).bind fun bt423 => ((spec_l01PickInt.f s0_0 bt423.2.1 bt423.2.2 (([0, 1, 200, 201] : List Int))).bind fun bt429 => (if bt406.1.length < 4398046511104 then (some ((bt406.1 ++ [(⟨bt417.1, bt423.1, bt429.1, false⟩ : S25)]), bt429.2.1, bt429.2.2)) else (none))))) else (if bt411.1 = 1 then (if (bt406.1.length : Int) > 0 then (if 0 < (bt406.1.length : Int) then (if bt406.1.length < 4398046511104 then (some ((bt406.1 ++ [(⟨(rd_T25 bt406.1 0).f0, (rd_T25 bt406.1 0).f1, (rd_T25 bt406.1 0).f2, (rd_T25 bt406.1 0).f3⟩ : S25)]), bt411.2.1, bt411.2.2)) else (none)) else (none)) else (some (bt406.1, bt411.2.1, bt411.2.2))) else (if bt411.1 = 2 then ((spec_l01Below.f s0_0 bt411.2.1 bt411.2.2 2).bind fun bt439 => ((spec_l15DrawRight.f k s0_0 bt439.2.1 bt439.2.2 (wrap64 (30 + bt439.1)) a2 true).bind fun bt442 => (some (bt442.1, bt442.2.1, bt442.2.2)))) else (if bt411.1 = 3 then ((spec_l01Below.f s0_0 bt411.2.1 bt411.2.2 6).bind fun bt447 => ((spec_l15DrawRight.f k s0_0 bt447.2.1 bt447.2.2 (wrap64 (12 + bt447.1)) 5 true).bind fun bt450 => (some (bt450.1, bt450.2.1, bt450.2.2)))) else (some (bt406.1, bt411.2.1, bt411.2.2))))))))))
def spec_DrawCouple.l0 : Nat → List (S25) → List (S25) → Int → Option ((List (S25)) × (List (S25)))
  | 0, _, _, _ => none
  | k + 1, x5, x6, x7 => if x7 < (x6.length : Int) then (if 0 < (x5.length : Int) then (if 0 ≤ x7 then (spec_DrawCouple.l0 k x5 (x6.set (x7 : Int).toNat (⟨(rd_T25 x6 x7).f0, (rd_T25 x5 0).f1, (rd_T25 x6 x7).f2, (rd_T25 x6 x7).f3⟩ : S25)) (wrap64 (x7 + 1))) else (none)) else (none)) else (some (x5, x6))
def spec_DrawCouple.f (k : Nat) (l0 : List Int) : Option ((List (S25)) × (List (S25))) := (spec_l01New.f k l0).bind fun bt455 => ((spec_l01Below.f bt455.1 bt455.2.1 bt455.2.2 4).bind fun bt459 => ((spec_l15DrawRight.f k bt455.1 bt459.2.1 bt459.2.2 (wrap64 (1 + bt459.1)) 1 true).bind fun bt462 => ((spec_l01Below.f bt455.1 bt462.2.1 bt462.2.2 4).bind fun bt467 => ((spec_l15DrawRight.f k bt455.1 bt467.2.1 bt467.2.2 (wrap64 (1 + bt467.1)) 100 true).bind fun bt470 => ((spec_l01Below.f bt455.1 bt470.2.1 bt470.2.2 5).bind fun bt475 => (if bt475.1 = 0 then ((spec_l15DrawAny.f k bt455.1 bt475.2.1 bt475.2.2 l0 2).bind fun bt478 => (some (bt462.1, bt478.1))) else (if bt475.1 = 1 then ((spec_l15DrawAny.f k bt455.1 bt475.2.1 bt475.2.2 l0 90).bind fun bt483 => (some (bt483.1, bt470.1))) else (if bt475.1 = 2 then (spec_DrawCouple.l0 k bt462.1 bt470.1 0) else (some (bt462.1, bt470.1))))))))))
def laws_sameUnits.l0 : Nat → List (S25) → List (S25) → Int → Option (Bool)
  | 0, _, _, _ => none
  | k + 1, x0, x1, x5 => if x5 < (x0.length : Int) then (if 0 ≤ x5 then (if x5 < (x1.length : Int) then (if (!(((rd_T25 x0 x5).f0) == ((rd_T25 x1 x5).f0)) || (!(((rd_T25 x0 x5).f1) == ((rd_T25 x1 x5).f1)) || (!(((rd_T25 x0 x5).f2) == ((rd_T25 x1 x5).f2)) || (!(((rd_T25 x0 x5).f3) == ((rd_T25 x1 x5).f3)))))) = true then (some false) else (laws_sameUnits.l0 k x0 x1 (wrap64 (x5 + 1)))) else (none)) else (none)) else (some true)
def laws_sameUnits.f (k : Nat) (l0 : List (S25)) (l1 : List (S25)) : Option (Bool) := if (l0.length : Int) = (l1.length : Int) then (laws_sameUnits.l0 k l0 l1 0) else (some false)
end Go.Proofs.Ytnojpcmaalbdhaa.P

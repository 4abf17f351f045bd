/- The functions of the program as plain Lean functions, without memory and machine; written by a program of the session. -/
import Derived.Test.YtnojpcmaalbdhaaProg
import Derived.Test.YtnojpcmaalbdhaaV
namespace Go.Proofs.Ytnojpcmaalbdhaa.P
open Go.RowKit Go.Proofs.YtnojpcmaalbdhaaW.PrintWords Go.Proofs.YtnojpcmaalbdhaaW.PrintLast Go.Proofs.YtnojpcmaalbdhaaW.PrintMore
set_option linter.unusedVariables false

structure S23 where
  f0 : Int
  f1 : Int
  f2 : Int
  f3 : Bool
def z23 : S23 := ⟨(0 : Int), (0 : Int), (0 : Int), false⟩
def rd_T23 (xs : List S23) (i : Int) : S23 := xs.getD i.toNat z23
structure S25 where
  f0 : Int
  f1 : Int
  f2 : Int
  f3 : Bool
def z25 : S25 := ⟨(0 : Int), (0 : Int), (0 : Int), false⟩
def rd_T25 (xs : List S25) (i : Int) : S25 := xs.getD i.toNat z25
def rd_L4 (xs : List (List S23)) (i : Int) : (List S23) := xs.getD i.toNat ([] : List S23)
def rd_L5 (xs : List (List Int)) (i : Int) : (List Int) := xs.getD i.toNat ([] : List Int)
def spec_Fitting.f (a0_0 : Int) (a0_1 : Int) (a0_2 : Int) (a0_3 : Bool) (a1_0 : Int) (a1_1 : Int) (a1_2 : Int) (a1_3 : Bool) : Option (Bool) := if a0_1 = a1_1 then (some true) else (if a0_1 ≤ 3 then (if a1_1 ≤ 3 then (some true) else (if a0_1 > 6 then (some (decide (a1_1 > 6))) else (some false))) else (if a0_1 > 6 then (some (decide (a1_1 > 6))) else (some false)))
def laws_toUnit.f (a0_0 : Int) (a0_1 : Int) (a0_2 : Int) (a0_3 : Bool) : Option (Int × Int × Int × Bool) := some (a0_0, a0_1, a0_2, a0_3)
def impl_Fitting.f (a0_0 : Int) (a0_1 : Int) (a0_2 : Int) (a0_3 : Bool) (a1_0 : Int) (a1_1 : Int) (a1_2 : Int) (a1_3 : Bool) : Option (Bool) := if a0_1 = a1_1 then (some true) else (if a0_1 ≤ 3 then (if a1_1 ≤ 3 then (some true) else (if a0_1 > 6 then (some (decide (a1_1 > 6))) else (some false))) else (if a0_1 > 6 then (some (decide (a1_1 > 6))) else (some false)))
def laws_FnExactFitting.f (a0_0 : Int) (a0_1 : Int) (a0_2 : Int) (a0_3 : Bool) (a1_0 : Int) (a1_1 : Int) (a1_2 : Int) (a1_3 : Bool) : Option (Bool) := (laws_toUnit.f a0_0 a0_1 a0_2 a0_3).bind fun bt110 => ((laws_toUnit.f a1_0 a1_1 a1_2 a1_3).bind fun bt114 => ((spec_Fitting.f bt110.1 bt110.2.1 bt110.2.2.1 bt110.2.2.2 bt114.1 bt114.2.1 bt114.2.2.1 bt114.2.2.2).bind fun t118 => ((laws_toUnit.f a0_0 a0_1 a0_2 a0_3).bind fun bt119 => ((laws_toUnit.f a1_0 a1_1 a1_2 a1_3).bind fun bt123 => ((impl_Fitting.f bt119.1 bt119.2.1 bt119.2.2.1 bt119.2.2.2 bt123.1 bt123.2.1 bt123.2.2.1 bt123.2.2.2).bind fun t127 => (if (t127 != t118) = true then (some false) else (some true)))))))
def laws_szUnitS.f (l0 : List (S23)) (a1 : Int) : Option (Int) := if (wrap64 (a1 - (l0.length : Int))) < 0 then (some (-1)) else (some (wrap64 (a1 - (l0.length : Int))))
def spec_l01In.f (a0 : Int) (a1 : Int) (a2 : Int) : Option (Bool) := if a1 ≤ a0 then (some (decide (a0 ≤ a2))) else (some false)
mutual
def spec_FormOk.l0 : Nat → List (S25) → Int → Option (Bool)
  | 0, _, _ => none
  | k + 1, x0, x3 => if x3 < (x0.length : Int) then (if 0 ≤ x3 then ((spec_l01In.f ((rd_T25 x0 x3).f0) 1 9999).bind fun t130 => (if t130 = true then ((spec_l01In.f ((rd_T25 x0 x3).f1) 1 9).bind fun t131 => (if t131 = true then ((spec_l01In.f ((rd_T25 x0 x3).f2) 1 200).bind fun t132 => (spec_FormOk.j1 k x0 x3 (!t132) ((rd_T25 x0 x3).f0) ((rd_T25 x0 x3).f1) ((rd_T25 x0 x3).f2) ((rd_T25 x0 x3).f3))) else (spec_FormOk.j1 k x0 x3 true ((rd_T25 x0 x3).f0) ((rd_T25 x0 x3).f1) ((rd_T25 x0 x3).f2) ((rd_T25 x0 x3).f3)))) else (spec_FormOk.j1 k x0 x3 true ((rd_T25 x0 x3).f0) ((rd_T25 x0 x3).f1) ((rd_T25 x0 x3).f2) ((rd_T25 x0 x3).f3)))) else (none)) else (some true)
def spec_FormOk.j1 : Nat → List (S25) → Int → Bool → Int → Int → Int → Bool → Option (Bool)
  | 0, _, _, _, _, _, _, _ => none
  | k + 1, x0, x3, x34, x130000, x130001, x130002, x130003 => if x34 = true then (some false) else (spec_FormOk.l1 k x0 x3 0 x130000 x130001 x130002 x130003)
def spec_FormOk.l1 : Nat → List (S25) → Int → Int → Int → Int → Int → Bool → Option (Bool)
  | 0, _, _, _, _, _, _, _ => none
  | k + 1, x0, x3, x5, x130000, x130001, x130002, x130003 => if x5 < x3 then (if 0 ≤ x5 then (if x5 < (x0.length : Int) then (if ((rd_T25 x0 x5).f0) = x130000 then (some false) else (spec_FormOk.l1 k x0 x3 (wrap64 (x5 + 1)) x130000 x130001 x130002 x130003)) else (none)) else (none)) else (spec_FormOk.l0 k x0 (wrap64 (x3 + 1)))
end
def spec_FormOk.f (k : Nat) (l0 : List (S25)) : Option (Bool) := if (l0.length : Int) > 30 then (some false) else (spec_FormOk.l0 k l0 0)
def laws_toUnitS.l0 : Nat → List (S23) → List (S25) → Int → Option ((List (S25)))
  | 0, _, _, _ => none
  | k + 1, x0, x3, x4 => if x4 < (x0.length : Int) then (if 0 ≤ x4 then ((laws_toUnit.f ((rd_T23 x0 x4).f0) ((rd_T23 x0 x4).f1) ((rd_T23 x0 x4).f2) ((rd_T23 x0 x4).f3)).bind fun bt138 => (if x4 < (x3.length : Int) then (laws_toUnitS.l0 k x0 (x3.set (x4 : Int).toNat (⟨bt138.1, bt138.2.1, bt138.2.2.1, bt138.2.2.2⟩ : S25)) (wrap64 (x4 + 1))) else (none))) else (none)) else (some x3)
def laws_toUnitS.f (k : Nat) (l0 : List (S23)) : Option ((List (S25))) := if 0 ≤ (l0.length : Int) then (if ((l0.length : Int) : Int).toNat ≤ 8796093022208 then (laws_toUnitS.l0 k l0 (List.replicate ((l0.length : Int) : Int).toNat z25) 0) else (none)) else (none)
def impl_between.f (a0 : Int) (a1 : Int) (a2 : Int) : Option (Bool) := if a0 ≥ a1 then (some (decide (a0 ≤ a2))) else (some false)
def impl_FormOk.l1 (l : List S25) (j : Nat) : Bool := decide (1 ≤ (rd_T25 l j).f0 ∧ (rd_T25 l j).f0 ≤ 9999) && decide (1 ≤ (rd_T25 l j).f1 ∧ (rd_T25 l j).f1 ≤ 9) && decide (1 ≤ (rd_T25 l j).f2 ∧ (rd_T25 l j).f2 ≤ 200) && !((l.take j).any fun x => x.f0 == (rd_T25 l j).f0)
def impl_FormOk.l0 (l : List S25) : Bool := decide (l.length ≤ 30) && (List.range l.length).all (impl_FormOk.l1 l)
def impl_FormOk.f (l0 : List S25) : Option Bool := some (impl_FormOk.l0 l0)
def laws_eqUnit.f (a0_0 : Int) (a0_1 : Int) (a0_2 : Int) (a0_3 : Bool) (a1_0 : Int) (a1_1 : Int) (a1_2 : Int) (a1_3 : Bool) : Option (Bool) := if a0_0 = a1_0 then (if a0_1 = a1_1 then (if a0_2 = a1_2 then (if (a0_3 != a1_3) = true then (some false) else (some true)) else (some false)) else (some false)) else (some false)
def laws_eqUnitS.l0 : Nat → List (S25) → List (S25) → Int → Option (Bool)
  | 0, _, _, _ => none
  | k + 1, x0, x1, x5 => if x5 < (x0.length : Int) then (if 0 ≤ x5 then (if x5 < (x1.length : Int) then ((laws_eqUnit.f ((rd_T25 x0 x5).f0) ((rd_T25 x0 x5).f1) ((rd_T25 x0 x5).f2) ((rd_T25 x0 x5).f3) ((rd_T25 x1 x5).f0) ((rd_T25 x1 x5).f1) ((rd_T25 x1 x5).f2) ((rd_T25 x1 x5).f3)).bind fun t147 => (if t147 = true then (laws_eqUnitS.l0 k x0 x1 (wrap64 (x5 + 1))) else (some false))) else (none)) else (none)) else (some true)
def laws_eqUnitS.f (k : Nat) (l0 : List (S25)) (l1 : List (S25)) : Option (Bool) := if (l0.length : Int) = (l1.length : Int) then (laws_eqUnitS.l0 k l0 l1 0) else (some false)
def laws_FnExactFormOk.f (k : Nat) (l0 : List (S23)) : Option (Bool) := (laws_szUnitS.f l0 1048576).bind fun t148 => (if t148 < 0 then (some true) else ((laws_toUnitS.f k l0).bind fun t149 => ((spec_FormOk.f k t149).bind fun t152 => ((laws_toUnitS.f k l0).bind fun t153 => ((impl_FormOk.f t153).bind fun t156 => (if (t156 != t152) = true then (some false) else ((laws_toUnitS.f k l0).bind fun t157 => ((laws_eqUnitS.f k t153 t157).bind fun t160 => (if t160 = true then (some true) else (some false))))))))))
def spec_FormLen.l0 : Nat → List (S25) → Int → Int → Option (Int)
  | 0, _, _, _ => none
  | k + 1, x0, x3, x4 => if x4 < (x0.length : Int) then (if 0 ≤ x4 then (spec_FormLen.l0 k x0 (wrap64 (x3 + ((rd_T25 x0 x4).f2))) (wrap64 (x4 + 1))) else (none)) else (some x3)
def spec_FormLen.f (k : Nat) (l0 : List (S25)) : Option (Int) := (spec_FormOk.f k l0).bind fun t161 => (if t161 = true then (spec_FormLen.l0 k l0 0 0) else (some (-1)))
def impl_FormLen.l0 : Nat → Int → List (S25) → Int → Int → Option (Int)
  | 0, _, _, _, _ => none
  | k + 1, x3, x9, x10, x11 => if x11 < x10 then (if 0 ≤ x11 then (if x11 < (x9.length : Int) then (impl_FormLen.l0 k (wrap64 (x3 + ((rd_T25 x9 x11).f2))) x9 x10 (wrap64 (x11 + 1))) else (none)) else (none)) else (some x3)
def impl_FormLen.f (k : Nat) (l0 : List (S25)) : Option (Int) := (impl_FormOk.f l0).bind fun t163 => (if t163 = true then (impl_FormLen.l0 k 0 l0 (l0.length : Int) 0) else (some (-1)))
def laws_FnExactFormLen.f (k : Nat) (l0 : List (S23)) : Option (Bool) := (laws_szUnitS.f l0 1048576).bind fun t166 => (if t166 < 0 then (some true) else ((laws_toUnitS.f k l0).bind fun t167 => ((spec_FormLen.f k t167).bind fun t170 => ((laws_toUnitS.f k l0).bind fun t171 => ((impl_FormLen.f k t171).bind fun t174 => (if t174 = t170 then ((laws_toUnitS.f k l0).bind fun t175 => ((laws_eqUnitS.f k t171 t175).bind fun t178 => (if t178 = true then (some true) else (some false)))) else (some false)))))))
def spec_Runnable.l0 : Nat → List (S25) → Int → Option (Bool)
  | 0, _, _ => none
  | k + 1, x0, x3 => if x3 < (x0.length : Int) then (if 0 ≤ (wrap64 (x3 - 1)) then (if (wrap64 (x3 - 1)) < (x0.length : Int) then (if 0 ≤ x3 then ((spec_Fitting.f ((rd_T25 x0 (wrap64 (x3 - 1))).f0) ((rd_T25 x0 (wrap64 (x3 - 1))).f1) ((rd_T25 x0 (wrap64 (x3 - 1))).f2) ((rd_T25 x0 (wrap64 (x3 - 1))).f3) ((rd_T25 x0 x3).f0) ((rd_T25 x0 x3).f1) ((rd_T25 x0 x3).f2) ((rd_T25 x0 x3).f3)).bind fun t181 => (if t181 = true then (spec_Runnable.l0 k x0 (wrap64 (x3 + 1))) else (some false))) else (none)) else (none)) else (none)) else ((spec_FormOk.f k x0).bind fun t182 => (if t182 = true then (some (decide ((x0.length : Int) > 0))) else (some false)))
def spec_Runnable.f (k : Nat) (l0 : List (S25)) : Option (Bool) := spec_Runnable.l0 k l0 1
mutual
def impl_Runnable.j0 : Nat → List (S25) → Bool → Option (Bool)
  | 0, _, _ => none
  | k + 1, x0, x11 => if x11 = true then (some false) else (impl_Runnable.l0 k x0 1)
def impl_Runnable.l0 : Nat → List (S25) → Int → Option (Bool)
  | 0, _, _ => none
  | k + 1, x0, x3 => if x3 < (x0.length : Int) then (if 0 ≤ (wrap64 (x3 - 1)) then (if (wrap64 (x3 - 1)) < (x0.length : Int) then (if 0 ≤ x3 then ((impl_Fitting.f ((rd_T25 x0 (wrap64 (x3 - 1))).f0) ((rd_T25 x0 (wrap64 (x3 - 1))).f1) ((rd_T25 x0 (wrap64 (x3 - 1))).f2) ((rd_T25 x0 (wrap64 (x3 - 1))).f3) ((rd_T25 x0 x3).f0) ((rd_T25 x0 x3).f1) ((rd_T25 x0 x3).f2) ((rd_T25 x0 x3).f3)).bind fun t186 => (if t186 = true then (impl_Runnable.l0 k x0 (wrap64 (x3 + 1))) else (some false))) else (none)) else (none)) else (none)) else (some true)
end
def impl_Runnable.f (k : Nat) (l0 : List (S25)) : Option (Bool) := (impl_FormOk.f l0).bind fun t183 => (if t183 = true then (impl_Runnable.j0 k l0 ((l0.length : Int) == 0)) else (impl_Runnable.j0 k l0 true))
def laws_FnExactRunnable.f (k : Nat) (l0 : List (S23)) : Option (Bool) := (laws_szUnitS.f l0 1048576).bind fun t187 => (if t187 < 0 then (some true) else ((laws_toUnitS.f k l0).bind fun t188 => ((spec_Runnable.f k t188).bind fun t191 => ((laws_toUnitS.f k l0).bind fun t192 => ((impl_Runnable.f k t192).bind fun t195 => (if (t195 != t191) = true then (some false) else ((laws_toUnitS.f k l0).bind fun t196 => ((laws_eqUnitS.f k t192 t196).bind fun t199 => (if t199 = true then (some true) else (some false))))))))))
mutual
def spec_l15Join.l0 : Nat → List (S25) → List (S25) → List (S25) → Int → Option ((List (S25)))
  | 0, _, _, _, _ => none
  | k + 1, x0, x1, x5, x6 => if x6 < (x0.length : Int) then (if 0 ≤ x6 then (if x5.length < 4398046511104 then (spec_l15Join.l0 k x0 x1 (x5 ++ [(⟨(rd_T25 x0 x6).f0, (rd_T25 x0 x6).f1, (rd_T25 x0 x6).f2, (rd_T25 x0 x6).f3⟩ : S25)]) (wrap64 (x6 + 1))) else (none)) else (none)) else (spec_l15Join.l1 k x1 x5 0)
def spec_l15Join.l1 : Nat → List (S25) → List (S25) → Int → Option ((List (S25)))
  | 0, _, _, _ => none
  | k + 1, x1, x5, x7 => if x7 < (x1.length : Int) then (if 0 ≤ x7 then (if x5.length < 4398046511104 then (spec_l15Join.l1 k x1 (x5 ++ [(⟨(rd_T25 x1 x7).f0, (rd_T25 x1 x7).f1, (rd_T25 x1 x7).f2, (rd_T25 x1 x7).f3⟩ : S25)]) (wrap64 (x7 + 1))) else (none)) else (none)) else (some x5)
end
def spec_l15Join.f (k : Nat) (l0 : List (S25)) (l1 : List (S25)) : Option ((List (S25))) := spec_l15Join.l0 k l0 l1 (([] : List (S25))) 0
def spec_Part.j0 : Nat → List (S25) → Int → Bool → Option ((List (S25)) × (List (S25)))
  | 0, _, _, _ => none
  | k + 1, x0, x1, x15 => if x15 = true then (some (([] : List (S25)), ([] : List (S25)))) else (if 0 ≤ x1 then (if x1 ≤ (x0.length : Int) then ((spec_l15Join.f k (x0.take (x1 : Int).toNat) ([] : List (S25))).bind fun t217 => ((spec_l15Join.f k (x0.drop (x1 : Int).toNat) ([] : List (S25))).bind fun t224 => (some (t217, t224)))) else (none)) else (none))
def spec_Part.f (k : Nat) (l0 : List (S25)) (a1 : Int) : Option ((List (S25)) × (List (S25))) := (spec_FormOk.f k l0).bind fun t211 => (if t211 = true then ((spec_l01In.f a1 0 (l0.length : Int)).bind fun t212 => (spec_Part.j0 k l0 a1 (!t212))) else (spec_Part.j0 k l0 a1 true))
def impl_joined.f (l0 : List (S25)) (l1 : List (S25)) : Option ((List (S25))) := (some (([] : List (S25)) : List (S25))).bind fun y227 => (if y227.length + l0.length < 4398046511104 then ((some (y227 ++ l0 : List (S25))).bind fun y230 => (if y230.length + l1.length < 4398046511104 then (some (y230 ++ l1)) else (none))) else (none))
def impl_Part.j0 : Nat → List (S25) → Int → Bool → Option ((List (S25)) × (List (S25)))
  | 0, _, _, _ => none
  | k + 1, x0, x1, x15 => if x15 = true then (some (([] : List (S25)), ([] : List (S25)))) else (if 0 ≤ x1 then (if x1 ≤ (x0.length : Int) then ((impl_joined.f (x0.take (x1 : Int).toNat) ([] : List (S25))).bind fun t242 => ((impl_joined.f (x0.drop (x1 : Int).toNat) ([] : List (S25))).bind fun t249 => (some (t242, t249)))) else (none)) else (none))
def impl_Part.f (k : Nat) (l0 : List (S25)) (a1 : Int) : Option ((List (S25)) × (List (S25))) := (impl_FormOk.f l0).bind fun t236 => (if t236 = true then ((impl_between.f a1 0 (l0.length : Int)).bind fun t237 => (impl_Part.j0 k l0 a1 (!t237))) else (impl_Part.j0 k l0 a1 true))
def laws_markUnitS.l0 : Nat → List (S25) → Int → Int → Option (Int × (List (S25)))
  | 0, _, _, _ => none
  | k + 1, x0, x1, x5 => if x5 < (x0.length : Int) then (if 0 ≤ x5 then ((some (x0.set (x5 : Int).toNat (⟨x1, (rd_T25 x0 x5).f1, (rd_T25 x0 x5).f2, (rd_T25 x0 x5).f3⟩ : S25) : List (S25))).bind fun y252 => ((some (y252.set (x5 : Int).toNat (⟨(rd_T25 y252 x5).f0, wrap64 (x1 + 1), (rd_T25 y252 x5).f2, (rd_T25 y252 x5).f3⟩ : S25) : List (S25))).bind fun y253 => ((some (y253.set (x5 : Int).toNat (⟨(rd_T25 y253 x5).f0, (rd_T25 y253 x5).f1, wrap64 ((wrap64 (x1 + 1)) + 1), (rd_T25 y253 x5).f3⟩ : S25) : List (S25))).bind fun y254 => (laws_markUnitS.l0 k (y254.set (x5 : Int).toNat (⟨(rd_T25 y254 x5).f0, (rd_T25 y254 x5).f1, (rd_T25 y254 x5).f2, ((Int.tmod (wrap64 ((wrap64 ((wrap64 (x1 + 1)) + 1)) + 1)) 3) == 0)⟩ : S25)) (wrap64 ((wrap64 ((wrap64 ((wrap64 (x1 + 1)) + 1)) + 1)) + 1)) (wrap64 (x5 + 1)))))) else (none)) else (some (x1, x0))
def laws_markUnitS.f (k : Nat) (l0 : List (S25)) (a1 : Int) : Option (Int × (List (S25))) := laws_markUnitS.l0 k l0 a1 0
def laws_heldUnitS.l0 : Nat → List (S25) → Int → Int → Option (Int)
  | 0, _, _, _ => none
  | k + 1, x0, x1, x5 => if x5 < (x0.length : Int) then (if 0 ≤ x5 then (if ((rd_T25 x0 x5).f0) = x1 then (if ((rd_T25 x0 x5).f1) = (wrap64 (x1 + 1)) then (if ((rd_T25 x0 x5).f2) = (wrap64 ((wrap64 (x1 + 1)) + 1)) then (if (((rd_T25 x0 x5).f3) != ((Int.tmod (wrap64 ((wrap64 ((wrap64 (x1 + 1)) + 1)) + 1)) 3) == 0)) = true then (some (-1)) else (laws_heldUnitS.l0 k x0 (wrap64 ((wrap64 ((wrap64 ((wrap64 (x1 + 1)) + 1)) + 1)) + 1)) (wrap64 (x5 + 1)))) else (some (-1))) else (some (-1))) else (some (-1))) else (none)) else (some x1)
def laws_heldUnitS.f (k : Nat) (l0 : List (S25)) (a1 : Int) : Option (Int) := laws_heldUnitS.l0 k l0 a1 0
mutual
def laws_FnExactPart.j0 : Nat → List (S23) → Int → List (S25) → List (S25) → List (S25) → List (S25) → List (S25) → Bool → Option (Bool)
  | 0, _, _, _, _, _, _, _, _ => none
  | k + 1, x0, x1, x6, x7, x8, x9, x10, x45 => if x45 = true then (some false) else ((laws_toUnitS.f k x0).bind fun t281 => ((laws_eqUnitS.f k x8 t281).bind fun t284 => (if t284 = true then ((laws_markUnitS.f k x8 1).bind fun bt285 => (if bt285.1 < 0 then (laws_FnExactPart.j1 k x0 x1 x6 x7 x9 x10 true) else ((laws_eqUnitS.f k x9 x6).bind fun t287 => (if t287 = true then ((laws_eqUnitS.f k x10 x7).bind fun t288 => (laws_FnExactPart.j1 k x0 x1 x6 x7 x9 x10 (!t288))) else (laws_FnExactPart.j1 k x0 x1 x6 x7 x9 x10 true))))) else (some false))))
def laws_FnExactPart.j1 : Nat → List (S23) → Int → List (S25) → List (S25) → List (S25) → List (S25) → Bool → Option (Bool)
  | 0, _, _, _, _, _, _, _ => none
  | k + 1, x0, x1, x6, x7, x9, x10, x67 => if x67 = true then (some false) else ((laws_markUnitS.f k x9 1).bind fun bt289 => ((laws_markUnitS.f k x10 bt289.1).bind fun bt291 => ((laws_heldUnitS.f k bt289.2 1).bind fun t293 => (if t293 < 0 then (some false) else ((laws_heldUnitS.f k bt291.2 t293).bind fun t294 => (if t294 < 0 then (some false) else (if t294 = bt291.1 then ((laws_toUnitS.f k x0).bind fun t295 => ((impl_Part.f k t295 x1).bind fun bt298 => ((laws_eqUnitS.f k bt298.1 x6).bind fun t304 => (if t304 = true then ((laws_eqUnitS.f k bt298.2 x7).bind fun t305 => (laws_FnExactPart.j2 k bt289.2 bt291.2 bt291.1 (!t305))) else (laws_FnExactPart.j2 k bt289.2 bt291.2 bt291.1 true))))) else (some false))))))))
def laws_FnExactPart.j2 : Nat → List (S25) → List (S25) → Int → Bool → Option (Bool)
  | 0, _, _, _, _ => none
  | k + 1, x9, x10, x12, x103 => if x103 = true then (some false) else ((laws_heldUnitS.f k x9 1).bind fun t306 => (if t306 < 0 then (some false) else ((laws_heldUnitS.f k x10 t306).bind fun t307 => (if t307 < 0 then (some false) else (if t307 = x12 then (some true) else (some false))))))
end
def laws_FnExactPart.f (k : Nat) (l0 : List (S23)) (a1 : Int) : Option (Bool) := (laws_szUnitS.f l0 1048576).bind fun t260 => (if t260 < 0 then (some true) else ((laws_toUnitS.f k l0).bind fun t261 => ((spec_Part.f k t261 a1).bind fun bt264 => ((laws_toUnitS.f k l0).bind fun t270 => ((impl_Part.f k t270 a1).bind fun bt273 => ((laws_eqUnitS.f k bt273.1 bt264.1).bind fun t279 => (if t279 = true then ((laws_eqUnitS.f k bt273.2 bt264.2).bind fun t280 => (laws_FnExactPart.j0 k l0 a1 bt264.1 bt264.2 t270 bt273.1 bt273.2 (!t280))) else (laws_FnExactPart.j0 k l0 a1 bt264.1 bt264.2 t270 bt273.1 bt273.2 true))))))))
def spec_Turn.l0 : Nat → List (S25) → List (S25) → Int → Option ((List (S25)))
  | 0, _, _, _ => none
  | k + 1, x0, x3, x4 => if x4 ≥ 0 then (if 0 ≤ x4 then (if x4 < (x0.length : Int) then (if x3.length < 4398046511104 then (spec_Turn.l0 k x0 (x3 ++ [(⟨(rd_T25 x0 x4).f0, (rd_T25 x0 x4).f1, (rd_T25 x0 x4).f2, !((rd_T25 x0 x4).f3)⟩ : S25)]) (wrap64 (x4 - 1))) else (none)) else (none)) else (none)) else (some x3)
def spec_Turn.f (k : Nat) (l0 : List (S25)) : Option ((List (S25))) := (spec_FormOk.f k l0).bind fun t308 => (if t308 = true then (spec_Turn.l0 k l0 (([] : List (S25))) (wrap64 ((l0.length : Int) - 1))) else (some ([] : List (S25))))
def impl_Unit_53.l0 : Nat → List (S25) → Int → Int → Option ((List (S25)))
  | 0, _, _, _ => none
  | k + 1, x0, x2, x3 => if x2 < x3 then (if 0 ≤ x3 then (if x3 < (x0.length : Int) then (if 0 ≤ x2 then (if x2 < (x0.length : Int) then (impl_Unit_53.l0 k ((x0.set (x2 : Int).toNat (⟨(rd_T25 x0 x3).f0, (rd_T25 x0 x3).f1, (rd_T25 x0 x3).f2, (rd_T25 x0 x3).f3⟩ : S25)).set (x3 : Int).toNat (⟨(rd_T25 x0 x2).f0, (rd_T25 x0 x2).f1, (rd_T25 x0 x2).f2, (rd_T25 x0 x2).f3⟩ : S25)) (wrap64 (x2 + 1)) (wrap64 (x3 - 1))) else (none)) else (none)) else (none)) else (none)) else (some x0)
def impl_Unit_53.f (k : Nat) (l0 : List (S25)) : Option ((List (S25))) := impl_Unit_53.l0 k l0 0 (wrap64 ((l0.length : Int) - 1))
def impl_turned.l0 : Nat → List (S25) → Int → Int → Option ((List (S25)))
  | 0, _, _, _ => none
  | k + 1, x3, x10, x11 => if x11 < x10 then (if 0 ≤ x11 then (if x11 < (x3.length : Int) then (impl_turned.l0 k (x3.set (x11 : Int).toNat (⟨(rd_T25 x3 x11).f0, (rd_T25 x3 x11).f1, (rd_T25 x3 x11).f2, !((rd_T25 x3 x11).f3)⟩ : S25)) x10 (wrap64 (x11 + 1))) else (none)) else (none)) else (some x3)
def impl_turned.f (k : Nat) (l0 : List (S25)) : Option ((List (S25))) := (impl_joined.f l0 ([] : List (S25))).bind fun t321 => ((impl_Unit_53.f k t321).bind fun t324 => (impl_turned.l0 k t324 (t321.length : Int) 0))
def impl_Turn.f (k : Nat) (l0 : List (S25)) : Option ((List (S25))) := (impl_FormOk.f l0).bind fun t327 => (if t327 = true then ((impl_turned.f k l0).bind fun t328 => (some t328)) else (some ([] : List (S25))))
def laws_FnExactTurn.j0 : Nat → List (S23) → List (S25) → List (S25) → Bool → Option (Bool)
  | 0, _, _, _, _ => none
  | k + 1, x0, x4, x6, x42 => if x42 = true then (some false) else ((laws_markUnitS.f k x6 1).bind fun bt352 => ((laws_heldUnitS.f k bt352.2 1).bind fun t354 => (if t354 < 0 then (some false) else (if t354 = bt352.1 then ((laws_toUnitS.f k x0).bind fun t355 => ((impl_Turn.f k t355).bind fun t358 => ((laws_eqUnitS.f k t358 x4).bind fun t361 => (if t361 = true then ((laws_heldUnitS.f k bt352.2 1).bind fun t362 => (if t362 < 0 then (some false) else (if t362 = bt352.1 then (some true) else (some false)))) else (some false))))) else (some false)))))
def laws_FnExactTurn.f (k : Nat) (l0 : List (S23)) : Option (Bool) := (laws_szUnitS.f l0 1048576).bind fun t331 => (if t331 < 0 then (some true) else ((laws_toUnitS.f k l0).bind fun t332 => ((spec_Turn.f k t332).bind fun t335 => ((laws_toUnitS.f k l0).bind fun t338 => ((impl_Turn.f k t338).bind fun t341 => ((laws_eqUnitS.f k t341 t335).bind fun t344 => (if t344 = true then ((laws_toUnitS.f k l0).bind fun t345 => ((laws_eqUnitS.f k t338 t345).bind fun t348 => (if t348 = true then ((laws_markUnitS.f k t338 1).bind fun bt349 => (if bt349.1 < 0 then (laws_FnExactTurn.j0 k l0 t335 t341 true) else ((laws_eqUnitS.f k t341 t335).bind fun t351 => (laws_FnExactTurn.j0 k l0 t335 t341 (!t351))))) else (some false)))) else (some false))))))))
def spec_Couple.f (k : Nat) (l0 : List (S25)) (l1 : List (S25)) : Option ((List (S25)) × Bool) := (spec_Runnable.f k l0).bind fun t363 => (if t363 = true then ((spec_Runnable.f k l1).bind fun t364 => (if t364 = true then ((spec_l15Join.f k l0 l1).bind fun t365 => ((spec_Runnable.f k t365).bind fun t368 => (if t368 = true then ((spec_l15Join.f k l0 l1).bind fun t369 => (some (t369, true))) else (some (([] : List (S25)), false))))) else (some (([] : List (S25)), false)))) else (some (([] : List (S25)), false)))
def impl_Couple.j0 : Nat → List (S25) → List (S25) → Bool → Option ((List (S25)) × Bool)
  | 0, _, _, _ => none
  | k + 1, x0, x1, x14 => if x14 = true then (some (([] : List (S25)), false)) else ((impl_joined.f x0 x1).bind fun t374 => ((impl_Runnable.f k t374).bind fun t377 => (if t377 = true then (some (t374, true)) else (some (([] : List (S25)), false)))))
def impl_Couple.f (k : Nat) (l0 : List (S25)) (l1 : List (S25)) : Option ((List (S25)) × Bool) := (impl_Runnable.f k l0).bind fun t372 => (if t372 = true then ((impl_Runnable.f k l1).bind fun t373 => (impl_Couple.j0 k l0 l1 (!t373))) else (impl_Couple.j0 k l0 l1 true))
mutual
def laws_FnExactCouple.j0 : Nat → List (S23) → List (S23) → List (S25) → Bool → List (S25) → List (S25) → List (S25) → Bool → Bool → Option (Bool)
  | 0, _, _, _, _, _, _, _, _, _ => none
  | k + 1, x0, x1, x6, x7, x8, x9, x10, x11, x53 => if x53 = true then (some false) else ((laws_toUnitS.f k x0).bind fun t401 => ((laws_eqUnitS.f k x8 t401).bind fun t404 => (if t404 = true then ((laws_toUnitS.f k x1).bind fun t405 => ((laws_eqUnitS.f k x9 t405).bind fun t408 => (if t408 = true then ((laws_markUnitS.f k x8 1).bind fun bt409 => ((laws_markUnitS.f k x9 bt409.1).bind fun bt411 => (if bt411.1 < 0 then (laws_FnExactCouple.j1 k x0 x1 x6 x7 x10 true) else ((laws_eqUnitS.f k x10 x6).bind fun t413 => (if t413 = true then (laws_FnExactCouple.j1 k x0 x1 x6 x7 x10 (x11 != x7)) else (laws_FnExactCouple.j1 k x0 x1 x6 x7 x10 true)))))) else (some false)))) else (some false))))
def laws_FnExactCouple.j1 : Nat → List (S23) → List (S23) → List (S25) → Bool → List (S25) → Bool → Option (Bool)
  | 0, _, _, _, _, _, _ => none
  | k + 1, x0, x1, x6, x7, x10, x82 => if x82 = true then (some false) else ((laws_markUnitS.f k x10 1).bind fun bt414 => ((laws_heldUnitS.f k bt414.2 1).bind fun t416 => (if t416 < 0 then (some false) else (if t416 = bt414.1 then ((laws_toUnitS.f k x0).bind fun t417 => ((laws_toUnitS.f k x1).bind fun t420 => ((impl_Couple.f k t417 t420).bind fun bt423 => ((laws_eqUnitS.f k bt423.1 x6).bind fun t427 => (if t427 = true then (laws_FnExactCouple.j2 k bt414.2 bt414.1 (bt423.2 != x7)) else (laws_FnExactCouple.j2 k bt414.2 bt414.1 true)))))) else (some false)))))
def laws_FnExactCouple.j2 : Nat → List (S25) → Int → Bool → Option (Bool)
  | 0, _, _, _ => none
  | k + 1, x10, x13, x110 => if x110 = true then (some false) else ((laws_heldUnitS.f k x10 1).bind fun t428 => (if t428 < 0 then (some false) else (if t428 = x13 then (some true) else (some false))))
end
def laws_FnExactCouple.f (k : Nat) (l0 : List (S23)) (l1 : List (S23)) : Option (Bool) := (laws_szUnitS.f l0 1048576).bind fun t378 => (if t378 < 0 then (some true) else ((laws_szUnitS.f l1 t378).bind fun t379 => (if t379 < 0 then (some true) else ((laws_toUnitS.f k l0).bind fun t380 => ((laws_toUnitS.f k l1).bind fun t383 => ((spec_Couple.f k t380 t383).bind fun bt386 => ((laws_toUnitS.f k l0).bind fun t390 => ((laws_toUnitS.f k l1).bind fun t393 => ((impl_Couple.f k t390 t393).bind fun bt396 => ((laws_eqUnitS.f k bt396.1 bt386.1).bind fun t400 => (if t400 = true then (laws_FnExactCouple.j0 k l0 l1 bt386.1 bt386.2 t390 t393 bt396.1 bt396.2 (bt396.2 != bt386.2)) else (laws_FnExactCouple.j0 k l0 l1 bt386.1 bt386.2 t390 t393 bt396.1 bt396.2 true))))))))))))
mutual
def spec_Shunted.j0 : Nat → List (S25) → List Int → Bool → Option ((List (S25)))
  | 0, _, _, _ => none
  | k + 1, x0, x1, x17 => if x17 = true then (some ([] : List (S25))) else (spec_Shunted.l0 k x0 x1 0)
def spec_Shunted.l0 : Nat → List (S25) → List Int → Int → Option ((List (S25)))
  | 0, _, _, _ => none
  | k + 1, x0, x1, x5 => if x5 < (x1.length : Int) then (if 0 ≤ x5 then ((spec_l01In.f (rd x1 x5) 0 (x0.length : Int)).bind fun t431 => (if t431 = true then (spec_Shunted.l0 k x0 x1 (wrap64 (x5 + 1))) else (some ([] : List (S25))))) else (none)) else ((spec_l15Join.f k x0 ([] : List (S25))).bind fun t432 => (spec_Shunted.l1 k x1 t432 0))
def spec_Shunted.l1 : Nat → List Int → List (S25) → Int → Option ((List (S25)))
  | 0, _, _, _ => none
  | k + 1, x1, x6, x7 => if x7 < (x1.length : Int) then (if 0 ≤ x7 then ((spec_Part.f k x6 (rd x1 x7)).bind fun bt436 => ((spec_Turn.f k bt436.1).bind fun t442 => ((spec_l15Join.f k bt436.2 t442).bind fun t445 => (spec_Shunted.l1 k x1 t445 (wrap64 (x7 + 1)))))) else (none)) else (some x6)
end
def spec_Shunted.f (k : Nat) (l0 : List (S25)) (l1 : List Int) : Option ((List (S25))) := (spec_FormOk.f k l0).bind fun t429 => (if t429 = true then (spec_Shunted.j0 k l0 l1 (decide ((l1.length : Int) > 30))) else (spec_Shunted.j0 k l0 l1 true))
def laws_toIntS.l0 : Nat → List Int → List Int → Int → Option (List Int)
  | 0, _, _, _ => none
  | k + 1, x0, x3, x4 => if x4 < (x0.length : Int) then (if 0 ≤ x4 then (if x4 < (x3.length : Int) then (laws_toIntS.l0 k x0 (x3.set (x4 : Int).toNat (rd x0 x4)) (wrap64 (x4 + 1))) else (none)) else (none)) else (some x3)
def laws_toIntS.f (k : Nat) (l0 : List Int) : Option (List Int) := if 0 ≤ (l0.length : Int) then (if ((l0.length : Int) : Int).toNat ≤ 35184372088832 then (laws_toIntS.l0 k l0 (List.replicate ((l0.length : Int) : Int).toNat 0) 0) else (none)) else (none)
mutual
def impl_Shunted.j0 : Nat → List (S25) → List Int → Bool → Option ((List (S25)))
  | 0, _, _, _ => none
  | k + 1, x0, x1, x17 => if x17 = true then (some ([] : List (S25))) else (impl_Shunted.l0 k x0 x1 x1 (x1.length : Int) 0)
def impl_Shunted.l0 : Nat → List (S25) → List Int → List Int → Int → Int → Option ((List (S25)))
  | 0, _, _, _, _, _ => none
  | k + 1, x0, x1, x18, x19, x20 => if x20 < x19 then (if 0 ≤ x20 then (if x20 < (x18.length : Int) then ((impl_between.f (rd x18 x20) 0 (x0.length : Int)).bind fun t455 => (if t455 = true then (impl_Shunted.l0 k x0 x1 x18 x19 (wrap64 (x20 + 1))) else (some ([] : List (S25))))) else (none)) else (none)) else ((impl_joined.f x0 ([] : List (S25))).bind fun t456 => (impl_Shunted.l1 k t456 x1 (x1.length : Int) 0))
def impl_Shunted.l1 : Nat → List (S25) → List Int → Int → Int → Option ((List (S25)))
  | 0, _, _, _, _ => none
  | k + 1, x7, x32, x33, x34 => if x34 < x33 then (if 0 ≤ x34 then (if x34 < (x32.length : Int) then (if 0 ≤ (rd x32 x34) then (if (rd x32 x34) ≤ (x7.length : Int) then ((impl_turned.f k (x7.take ((rd x32 x34) : Int).toNat)).bind fun t468 => ((impl_joined.f (x7.drop ((rd x32 x34) : Int).toNat) t468).bind fun t471 => (impl_Shunted.l1 k t471 x32 x33 (wrap64 (x34 + 1))))) else (none)) else (none)) else (none)) else (none)) else (some x7)
end
def impl_Shunted.f (k : Nat) (l0 : List (S25)) (l1 : List Int) : Option ((List (S25))) := (impl_FormOk.f l0).bind fun t453 => (if t453 = true then (impl_Shunted.j0 k l0 l1 (decide ((l1.length : Int) > 30))) else (impl_Shunted.j0 k l0 l1 true))
def laws_eqIntS.l0 : Nat → List Int → List Int → Int → Option (Bool)
  | 0, _, _, _ => none
  | k + 1, x0, x1, x5 => if x5 < (x0.length : Int) then (if 0 ≤ x5 then (if x5 < (x1.length : Int) then (if (rd x0 x5) = (rd x1 x5) then (laws_eqIntS.l0 k x0 x1 (wrap64 (x5 + 1))) else (some false)) else (none)) else (none)) else (some true)
def laws_eqIntS.f (k : Nat) (l0 : List Int) (l1 : List Int) : Option (Bool) := if (l0.length : Int) = (l1.length : Int) then (laws_eqIntS.l0 k l0 l1 0) else (some false)
def laws_markIntS.l0 : Nat → List Int → Int → Int → Option (Int × List Int)
  | 0, _, _, _ => none
  | k + 1, x0, x1, x5 => if x5 < (x0.length : Int) then (if 0 ≤ x5 then (laws_markIntS.l0 k (x0.set (x5 : Int).toNat x1) (wrap64 (x1 + 1)) (wrap64 (x5 + 1))) else (none)) else (some (x1, x0))
def laws_markIntS.f (k : Nat) (l0 : List Int) (a1 : Int) : Option (Int × List Int) := laws_markIntS.l0 k l0 a1 0
def laws_FnExactShunted.j0 : Nat → List (S23) → List Int → List (S25) → List (S25) → Bool → Option (Bool)
  | 0, _, _, _, _, _ => none
  | k + 1, x0, x1, x6, x9, x61 => if x61 = true then (some false) else ((laws_markUnitS.f k x9 1).bind fun bt510 => ((laws_heldUnitS.f k bt510.2 1).bind fun t512 => (if t512 < 0 then (some false) else (if t512 = bt510.1 then ((laws_toUnitS.f k x0).bind fun t513 => ((laws_toIntS.f k x1).bind fun t516 => ((impl_Shunted.f k t513 t516).bind fun t519 => ((laws_eqUnitS.f k t519 x6).bind fun t522 => (if t522 = true then ((laws_heldUnitS.f k bt510.2 1).bind fun t523 => (if t523 < 0 then (some false) else (if t523 = bt510.1 then (some true) else (some false)))) else (some false)))))) else (some false)))))
def laws_FnExactShunted.f (k : Nat) (l0 : List (S23)) (l1 : List Int) : Option (Bool) := if (l1.length : Int) > 1048576 then (some true) else ((laws_szUnitS.f l0 1048576).bind fun t477 => (if t477 < 0 then (some true) else ((laws_toUnitS.f k l0).bind fun t478 => ((laws_toIntS.f k l1).bind fun t481 => ((spec_Shunted.f k t478 t481).bind fun t484 => ((laws_toUnitS.f k l0).bind fun t487 => ((laws_toIntS.f k l1).bind fun t490 => ((impl_Shunted.f k t487 t490).bind fun t493 => ((laws_eqUnitS.f k t493 t484).bind fun t496 => (if t496 = true then ((laws_toUnitS.f k l0).bind fun t497 => ((laws_eqUnitS.f k t487 t497).bind fun t500 => (if t500 = true then ((laws_toIntS.f k l1).bind fun t501 => ((laws_eqIntS.f k t490 t501).bind fun t504 => (if t504 = true then ((laws_markUnitS.f k t487 1).bind fun bt505 => ((laws_markIntS.f k t490 bt505.1).bind fun bt507 => (if bt507.1 < 0 then (laws_FnExactShunted.j0 k l0 l1 t484 t493 true) else ((laws_eqUnitS.f k t493 t484).bind fun t509 => (laws_FnExactShunted.j0 k l0 l1 t484 t493 (!t509)))))) else (some false)))) else (some false)))) else (some false)))))))))))
def laws_big.f (l0 : List Int) : Option (Bool) := some (decide ((l0.length : Int) > 1048576))
def spec_l01New.l0 : Nat → List Int → Int → Int → Option (List Int × Int × Int)
  | 0, _, _, _ => none
  | k + 1, x0, x3, x4 => if x4 < (x0.length : Int) then (if x4 < 4000 then (if 0 ≤ x4 then (spec_l01New.l0 k x0 (Go.bits .and .i64 (wrap64 ((wrap64 ((wrap64 (x3 * 137)) + (wrap64 (rd x0 x4)))) + 11)) 1073741823) (wrap64 (x4 + 1))) else (none)) else (some (x0, 0, x3))) else (some (x0, 0, x3))
def spec_l01New.f (k : Nat) (l0 : List Int) : Option (List Int × Int × Int) := spec_l01New.l0 k l0 (wrap64 (75075 + (l0.length : Int))) 0
def spec_l01Byte.f (s0_0 : List Int) (s0_1 : Int) (s0_2 : Int) : Option (Int × Int × Int) := if s0_1 < (s0_0.length : Int) then (if 0 ≤ s0_1 then (some (Go.bits .and .i64 (wrap64 ((Go.bits .and .i64 (Go.bits .xor .i64 ((wrap64 ((wrap64 (s0_2 * 6364136223846793005)) + 1442695040888963407)) / 8589934592) ((wrap64 ((wrap64 (s0_2 * 6364136223846793005)) + 1442695040888963407)) / 35184372088832)) 255) + (wrap64 (rd s0_0 s0_1)))) 255, wrap64 (s0_1 + 1), wrap64 ((wrap64 (s0_2 * 6364136223846793005)) + 1442695040888963407))) else (none)) else (some (Go.bits .and .i64 (Go.bits .xor .i64 ((wrap64 ((wrap64 (s0_2 * 6364136223846793005)) + 1442695040888963407)) / 8589934592) ((wrap64 ((wrap64 (s0_2 * 6364136223846793005)) + 1442695040888963407)) / 35184372088832)) 255, s0_1, wrap64 ((wrap64 (s0_2 * 6364136223846793005)) + 1442695040888963407)))
def spec_l01Below.f (s0_0 : List Int) (s0_1 : Int) (s0_2 : Int) (a1 : Int) : Option (Int × Int × Int) := if a1 ≤ 0 then (some (0, s0_1, s0_2)) else (if a1 ≤ 256 then ((spec_l01Byte.f s0_0 s0_1 s0_2).bind fun bt528 => (if a1 = 0 then (none) else (some (Int.tmod bt528.1 a1, bt528.2.1, bt528.2.2)))) else ((spec_l01Byte.f s0_0 s0_1 s0_2).bind fun bt531 => ((spec_l01Byte.f s0_0 bt531.2.1 bt531.2.2).bind fun bt534 => ((spec_l01Byte.f s0_0 bt534.2.1 bt534.2.2).bind fun bt537 => (if a1 = 0 then (none) else (some (Int.tmod (wrap64 ((wrap64 ((wrap64 (bt531.1 * 65536)) + (wrap64 (bt534.1 * 256)))) + bt537.1)) a1, bt537.2.1, bt537.2.2)))))))
def spec_l01Once.f (s0_0 : List Int) (s0_1 : Int) (s0_2 : Int) (a1 : Int) : Option (Bool × Int × Int) := (spec_l01Below.f s0_0 s0_1 s0_2 a1).bind fun bt540 => (some ((bt540.1 == 0), bt540.2.1, bt540.2.2))
def spec_l15DrawRight.l0 : Nat → Int → Int → Bool → List (S25) → Int → Int → List Int → Int → Int → Option ((List (S25)) × Int × Int)
  | 0, _, _, _, _, _, _, _, _, _ => none
  | k + 1, x1, x2, x3, x9, x10, x11, x1000, x1001, x1002 => if x11 < x1 then (if x3 = true then ((spec_l01Below.f x1000 x1001 x1002 3).bind fun bt549 => ((spec_l01Below.f x1000 bt549.2.1 bt549.2.2 40).bind fun bt552 => ((spec_l01Once.f x1000 bt552.2.1 bt552.2.2 3).bind fun bt555 => (if x9.length < 4398046511104 then (spec_l15DrawRight.l0 k x1 x2 x3 (x9 ++ [(⟨wrap64 ((wrap64 (x2 + (wrap64 (x11 * 3)))) + bt549.1), x10, wrap64 (10 + bt552.1), bt555.1⟩ : S25)]) x10 (wrap64 (x11 + 1)) x1000 bt555.2.1 bt555.2.2) else (none))))) else ((spec_l01Below.f x1000 x1001 x1002 9).bind fun bt561 => ((spec_l01Below.f x1000 bt561.2.1 bt561.2.2 3).bind fun bt564 => ((spec_l01Below.f x1000 bt564.2.1 bt564.2.2 40).bind fun bt567 => ((spec_l01Once.f x1000 bt567.2.1 bt567.2.2 3).bind fun bt570 => (if x9.length < 4398046511104 then (spec_l15DrawRight.l0 k x1 x2 x3 (x9 ++ [(⟨wrap64 ((wrap64 (x2 + (wrap64 (x11 * 3)))) + bt564.1), wrap64 (1 + bt561.1), wrap64 (10 + bt567.1), bt570.1⟩ : S25)]) (wrap64 (1 + bt561.1)) (wrap64 (x11 + 1)) x1000 bt570.2.1 bt570.2.2) else (none))))))) else (some (x9, x1001, x1002))
def spec_l15DrawRight.f (k : Nat) (s0_0 : List Int) (s0_1 : Int) (s0_2 : Int) (a1 : Int) (a2 : Int) (a3 : Bool) : Option ((List (S25)) × Int × Int) := (spec_l01Below.f s0_0 s0_1 s0_2 9).bind fun bt546 => (spec_l15DrawRight.l0 k a1 a2 a3 (([] : List (S25))) (wrap64 (1 + bt546.1)) 0 s0_0 bt546.2.1 bt546.2.2)
def spec_l01Size.f (l0 : List Int) (a1 : Int) : Option (Int) := if (wrap64 (2 + (wrap64 ((l0.length : Int) / 16)))) > a1 then (some a1) else (some (wrap64 (2 + (wrap64 ((l0.length : Int) / 16)))))
def spec_l01PickInt.f (s0_0 : List Int) (s0_1 : Int) (s0_2 : Int) (l1 : List Int) : Option (Int × Int × Int) := (spec_l01Below.f s0_0 s0_1 s0_2 (l1.length : Int)).bind fun bt576 => (if 0 ≤ bt576.1 then (if bt576.1 < (l1.length : Int) then (some (rd l1 bt576.1, bt576.2.1, bt576.2.2)) else (none)) else (none))
def spec_l15DrawAny.f (k : Nat) (s0_0 : List Int) (s0_1 : Int) (s0_2 : Int) (l1 : List Int) (a2 : Int) : Option ((List (S25)) × Int × Int) := (spec_l01Size.f l1 7).bind fun t580 => ((spec_l01Below.f s0_0 s0_1 s0_2 t580).bind fun bt581 => ((spec_l01Once.f s0_0 bt581.2.1 bt581.2.2 2).bind fun bt584 => ((spec_l15DrawRight.f k s0_0 bt584.2.1 bt584.2.2 bt581.1 a2 bt584.1).bind fun bt587 => ((spec_l01Below.f s0_0 bt587.2.1 bt587.2.2 25).bind fun bt592 => (if bt592.1 = 0 then ((spec_l01PickInt.f s0_0 bt592.2.1 bt592.2.2 (([0, 1, 9999, 10000] : List Int))).bind fun bt598 => ((spec_l01PickInt.f s0_0 bt598.2.1 bt598.2.2 (([0, 1, 9, 10] : List Int))).bind fun bt604 => ((spec_l01PickInt.f s0_0 bt604.2.1 bt604.2.2 (([0, 1, 200, 201] : List Int))).bind fun bt610 => (if bt587.1.length < 4398046511104 then (some ((bt587.1 ++ [(⟨bt598.1, bt604.1, bt610.1, false⟩ : S25)]), bt610.2.1, bt610.2.2)) else (none))))) else (if bt592.1 = 1 then (if (bt587.1.length : Int) > 0 then (if 0 < (bt587.1.length : Int) then (if bt587.1.length < 4398046511104 then (some ((bt587.1 ++ [(⟨(rd_T25 bt587.1 0).f0, (rd_T25 bt587.1 0).f1, (rd_T25 bt587.1 0).f2, (rd_T25 bt587.1 0).f3⟩ : S25)]), bt592.2.1, bt592.2.2)) else (none)) else (none)) else (some (bt587.1, bt592.2.1, bt592.2.2))) else (if bt592.1 = 2 then ((spec_l01Below.f s0_0 bt592.2.1 bt592.2.2 2).bind fun bt620 => ((spec_l15DrawRight.f k s0_0 bt620.2.1 bt620.2.2 (wrap64 (30 + bt620.1)) a2 true).bind fun bt623 => (some (bt623.1, bt623.2.1, bt623.2.2)))) else (if bt592.1 = 3 then ((spec_l01Below.f s0_0 bt592.2.1 bt592.2.2 6).bind fun bt628 => ((spec_l15DrawRight.f k s0_0 bt628.2.1 bt628.2.2 (wrap64 (12 + bt628.1)) 5 true).bind fun bt631 => (some (bt631.1, bt631.2.1, bt631.2.2)))) else (some (bt587.1, bt592.2.1, bt592.2.2))))))))))
def spec_DrawCouple.l0 : Nat → List (S25) → List (S25) → Int → Option ((List (S25)) × (List (S25)))
  | 0, _, _, _ => none
  | k + 1, x5, x6, x7 => if x7 < (x6.length : Int) then (if 0 < (x5.length : Int) then (if 0 ≤ x7 then (spec_DrawCouple.l0 k x5 (x6.set (x7 : Int).toNat (⟨(rd_T25 x6 x7).f0, (rd_T25 x5 0).f1, (rd_T25 x6 x7).f2, (rd_T25 x6 x7).f3⟩ : S25)) (wrap64 (x7 + 1))) else (none)) else (none)) else (some (x5, x6))
def spec_DrawCouple.f (k : Nat) (l0 : List Int) : Option ((List (S25)) × (List (S25))) := (spec_l01New.f k l0).bind fun bt636 => ((spec_l01Below.f bt636.1 bt636.2.1 bt636.2.2 4).bind fun bt640 => ((spec_l15DrawRight.f k bt636.1 bt640.2.1 bt640.2.2 (wrap64 (1 + bt640.1)) 1 true).bind fun bt643 => ((spec_l01Below.f bt636.1 bt643.2.1 bt643.2.2 4).bind fun bt648 => ((spec_l15DrawRight.f k bt636.1 bt648.2.1 bt648.2.2 (wrap64 (1 + bt648.1)) 100 true).bind fun bt651 => ((spec_l01Below.f bt636.1 bt651.2.1 bt651.2.2 5).bind fun bt656 => (if bt656.1 = 0 then ((spec_l15DrawAny.f k bt636.1 bt656.2.1 bt656.2.2 l0 2).bind fun bt659 => (some (bt643.1, bt659.1))) else (if bt656.1 = 1 then ((spec_l15DrawAny.f k bt636.1 bt656.2.1 bt656.2.2 l0 90).bind fun bt664 => (some (bt664.1, bt651.1))) else (if bt656.1 = 2 then (spec_DrawCouple.l0 k bt643.1 bt651.1 0) else (some (bt643.1, bt651.1))))))))))
def laws_sameUnits.l0 : Nat → List (S25) → List (S25) → Int → Option (Bool)
  | 0, _, _, _ => none
  | k + 1, x0, x1, x5 => if x5 < (x0.length : Int) then (if 0 ≤ x5 then (if x5 < (x1.length : Int) then (if (!(((rd_T25 x0 x5).f0) == ((rd_T25 x1 x5).f0)) || (!(((rd_T25 x0 x5).f1) == ((rd_T25 x1 x5).f1)) || (!(((rd_T25 x0 x5).f2) == ((rd_T25 x1 x5).f2)) || (!(((rd_T25 x0 x5).f3) == ((rd_T25 x1 x5).f3)))))) = true then (some false) else (laws_sameUnits.l0 k x0 x1 (wrap64 (x5 + 1)))) else (none)) else (none)) else (some true)
def laws_sameUnits.f (k : Nat) (l0 : List (S25)) (l1 : List (S25)) : Option (Bool) := if (l0.length : Int) = (l1.length : Int) then (laws_sameUnits.l0 k l0 l1 0) else (some false)
def laws_FnCoupled.j0 : Nat → List (S25) → List (S25) → List (S25) → Bool → Option (Bool)
  | 0, _, _, _, _ => none
  | k + 1, x3, x4, x5, x85 => if x85 = true then (some false) else ((impl_Shunted.f k x5 (([(x3.length : Int)] : List Int))).bind fun t706 => ((impl_Part.f k t706 (x4.length : Int)).bind fun bt709 => ((laws_sameUnits.f k bt709.1 x4).bind fun t715 => (if t715 = true then ((impl_Turn.f k x3).bind fun t716 => ((laws_sameUnits.f k bt709.2 t716).bind fun t719 => (if t719 = true then ((impl_Shunted.f k x5 ([] : List Int)).bind fun t720 => ((laws_sameUnits.f k t720 x5).bind fun t723 => (some t723))) else (some false)))) else (some false)))))
def laws_FnCoupled.f (k : Nat) (l0 : List Int) : Option (Bool) := (laws_big.f l0).bind fun t673 => (if t673 = true then (some true) else ((spec_DrawCouple.f k l0).bind fun bt674 => ((impl_Couple.f k bt674.1 bt674.2).bind fun bt680 => ((spec_Couple.f k bt674.1 bt674.2).bind fun bt684 => (if (bt680.2 != bt684.2) = true then (some false) else (if bt680.2 = true then ((impl_Part.f k bt680.1 (bt674.1.length : Int)).bind fun bt688 => ((laws_sameUnits.f k bt688.1 bt674.1).bind fun t694 => (if t694 = true then ((laws_sameUnits.f k bt688.2 bt674.2).bind fun t695 => (if t695 = true then ((impl_Runnable.f k bt680.1).bind fun t696 => (if t696 = true then (if 0 ≤ (wrap64 ((bt674.1.length : Int) - 1)) then (if (wrap64 ((bt674.1.length : Int) - 1)) < (bt674.1.length : Int) then (if 0 < (bt674.2.length : Int) then ((impl_Fitting.f ((rd_T25 bt674.1 (wrap64 ((bt674.1.length : Int) - 1))).f0) ((rd_T25 bt674.1 (wrap64 ((bt674.1.length : Int) - 1))).f1) ((rd_T25 bt674.1 (wrap64 ((bt674.1.length : Int) - 1))).f2) ((rd_T25 bt674.1 (wrap64 ((bt674.1.length : Int) - 1))).f3) ((rd_T25 bt674.2 0).f0) ((rd_T25 bt674.2 0).f1) ((rd_T25 bt674.2 0).f2) ((rd_T25 bt674.2 0).f3)).bind fun t699 => (if t699 = true then ((impl_FormLen.f k bt680.1).bind fun t700 => ((impl_FormLen.f k bt674.1).bind fun t701 => ((impl_FormLen.f k bt674.2).bind fun t702 => (laws_FnCoupled.j0 k bt674.1 bt674.2 bt680.1 (t700 != (wrap64 (t701 + t702))))))) else (laws_FnCoupled.j0 k bt674.1 bt674.2 bt680.1 true))) else (none)) else (none)) else (none)) else (laws_FnCoupled.j0 k bt674.1 bt674.2 bt680.1 true))) else (laws_FnCoupled.j0 k bt674.1 bt674.2 bt680.1 true))) else (laws_FnCoupled.j0 k bt674.1 bt674.2 bt680.1 true)))) else (some ((bt680.1.length : Int) == 0))))))))
def laws_FnCoupled.Pure : Prop := ∀ (l0 : List Int), l0.length ≤ maxLen → l0.length * 1 ≤ 140737488351232 → (∀ x ∈ l0, (Lit.int .u8 x).wf = true) → ∃ k, laws_FnCoupled.f k l0 = some true
end Go.Proofs.Ytnojpcmaalbdhaa.P

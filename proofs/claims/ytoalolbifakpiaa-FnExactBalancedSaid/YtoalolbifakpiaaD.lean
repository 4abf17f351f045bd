/- The functions of the program as plain Lean functions, without memory and machine; written by a program of the session. -/
import Derived.Test.YtoalolbifakpiaaProg
import Derived.Test.YtoalolbifakpiaaV
namespace Go.Proofs.Ytoalolbifakpiaa.P
open Go.RowKit Go.Proofs.YtoalolbifakpiaaW.PrintWords Go.Proofs.YtoalolbifakpiaaW.PrintLast Go.Proofs.YtoalolbifakpiaaW.PrintMore
set_option linter.unusedVariables false

structure S23 where
  f0 : Int
  f1 : Int
  f2 : Int
  f3 : Int
  f4 : Int
def z23 : S23 := ⟨(0 : Int), (0 : Int), (0 : Int), (0 : Int), (0 : Int)⟩
def rd_T23 (xs : List S23) (i : Int) : S23 := xs.getD i.toNat z23
structure S25 where
  f0 : Int
  f1 : Int
  f2 : Int
  f3 : Int
  f4 : Int
def z25 : S25 := ⟨(0 : Int), (0 : Int), (0 : Int), (0 : Int), (0 : Int)⟩
def rd_T25 (xs : List S25) (i : Int) : S25 := xs.getD i.toNat z25
def rd_L3 (xs : List (List S23)) (i : Int) : (List S23) := xs.getD i.toNat ([] : List S23)
def laws_szTaskS.f (l0 : List (S23)) (a1 : Int) : Option (Int) := if (wrap64 (a1 - (l0.length : Int))) < 0 then (some (-1)) else (some (wrap64 (a1 - (l0.length : Int))))
def laws_toTask.f (a0_0 : Int) (a0_1 : Int) (a0_2 : Int) (a0_3 : Int) (a0_4 : Int) : Option (Int × Int × Int × Int × Int) := some (a0_0, a0_1, a0_2, a0_3, a0_4)
def laws_toTaskS.l0 : Nat → List (S23) → List (S25) → Int → Option ((List (S25)))
  | 0, _, _, _ => none
  | k + 1, x0, x3, x4 => if x4 < (x0.length : Int) then (if 0 ≤ x4 then ((laws_toTask.f ((rd_T23 x0 x4).f0) ((rd_T23 x0 x4).f1) ((rd_T23 x0 x4).f2) ((rd_T23 x0 x4).f3) ((rd_T23 x0 x4).f4)).bind fun bt108 => (if x4 < (x3.length : Int) then (laws_toTaskS.l0 k x0 (x3.set (x4 : Int).toNat (⟨bt108.1, bt108.2.1, bt108.2.2.1, bt108.2.2.2.1, bt108.2.2.2.2⟩ : S25)) (wrap64 (x4 + 1))) else (none))) else (none)) else (some x3)
def laws_toTaskS.f (k : Nat) (l0 : List (S23)) : Option ((List (S25))) := if 0 ≤ (l0.length : Int) then (if ((l0.length : Int) : Int).toNat ≤ 7036874417766 then (laws_toTaskS.l0 k l0 (List.replicate ((l0.length : Int) : Int).toNat z25) 0) else (none)) else (none)
def laws_eqTask.f (a0_0 : Int) (a0_1 : Int) (a0_2 : Int) (a0_3 : Int) (a0_4 : Int) (a1_0 : Int) (a1_1 : Int) (a1_2 : Int) (a1_3 : Int) (a1_4 : Int) : Option (Bool) := if a0_0 = a1_0 then (if a0_1 = a1_1 then (if a0_2 = a1_2 then (if a0_3 = a1_3 then (if a0_4 = a1_4 then (some true) else (some false)) else (some false)) else (some false)) else (some false)) else (some false)
def laws_eqTaskS.l0 : Nat → List (S25) → List (S25) → Int → Option (Bool)
  | 0, _, _, _ => none
  | k + 1, x0, x1, x5 => if x5 < (x0.length : Int) then (if 0 ≤ x5 then (if x5 < (x1.length : Int) then ((laws_eqTask.f ((rd_T25 x0 x5).f0) ((rd_T25 x0 x5).f1) ((rd_T25 x0 x5).f2) ((rd_T25 x0 x5).f3) ((rd_T25 x0 x5).f4) ((rd_T25 x1 x5).f0) ((rd_T25 x1 x5).f1) ((rd_T25 x1 x5).f2) ((rd_T25 x1 x5).f3) ((rd_T25 x1 x5).f4)).bind fun t118 => (if t118 = true then (laws_eqTaskS.l0 k x0 x1 (wrap64 (x5 + 1))) else (some false))) else (none)) else (none)) else (some true)
def laws_eqTaskS.f (k : Nat) (l0 : List (S25)) (l1 : List (S25)) : Option (Bool) := if (l0.length : Int) = (l1.length : Int) then (laws_eqTaskS.l0 k l0 l1 0) else (some false)
def spec_l01In.f (a0 : Int) (a1 : Int) (a2 : Int) : Option (Bool) := if a1 ≤ a0 then (some (decide (a0 ≤ a2))) else (some false)
def spec_l16Task.f (a0_0 : Int) (a0_1 : Int) (a0_2 : Int) (a0_3 : Int) (a0_4 : Int) : Option (Bool) := (spec_l01In.f a0_0 0 29).bind fun t120 => (if t120 = true then ((spec_l01In.f a0_1 0 29).bind fun t121 => (if t121 = true then ((spec_l01In.f a0_3 0 100000).bind fun t122 => (if t122 = true then ((spec_l01In.f a0_2 0 (wrap64 (a0_3 - 1))).bind fun t123 => (if t123 = true then ((spec_l01In.f a0_4 0 2000).bind fun t124 => (some t124)) else (some false))) else (some false))) else (some false))) else (some false))
def spec_TasksOk.l0 : Nat → List (S25) → Int → Option (Bool)
  | 0, _, _ => none
  | k + 1, x0, x3 => if x3 < (x0.length : Int) then (if 0 ≤ x3 then ((spec_l16Task.f ((rd_T25 x0 x3).f0) ((rd_T25 x0 x3).f1) ((rd_T25 x0 x3).f2) ((rd_T25 x0 x3).f3) ((rd_T25 x0 x3).f4)).bind fun t126 => (if t126 = true then (spec_TasksOk.l0 k x0 (wrap64 (x3 + 1))) else (some false))) else (none)) else (some (decide ((x0.length : Int) ≤ 40)))
def spec_TasksOk.f (k : Nat) (l0 : List (S25)) : Option (Bool) := spec_TasksOk.l0 k l0 0
mutual
def spec_Balanced.l0 : Nat → List (S25) → Int → Option (Bool)
  | 0, _, _ => none
  | k + 1, x0, x3 => if x3 < 30 then (spec_Balanced.l1 k x0 x3 0 0) else (some true)
def spec_Balanced.l1 : Nat → List (S25) → Int → Int → Int → Option (Bool)
  | 0, _, _, _, _ => none
  | k + 1, x0, x3, x4, x5 => if x5 < (x0.length : Int) then (if 0 ≤ x5 then (if ((rd_T25 x0 x5).f0) = x3 then (if ((rd_T25 x0 x5).f1) = x3 then (spec_Balanced.l1 k x0 x3 (wrap64 ((wrap64 (x4 + 1)) - 1)) (wrap64 (x5 + 1))) else (spec_Balanced.l1 k x0 x3 (wrap64 (x4 + 1)) (wrap64 (x5 + 1)))) else (if ((rd_T25 x0 x5).f1) = x3 then (spec_Balanced.l1 k x0 x3 (wrap64 (x4 - 1)) (wrap64 (x5 + 1))) else (spec_Balanced.l1 k x0 x3 x4 (wrap64 (x5 + 1))))) else (none)) else (if x4 = 0 then (spec_Balanced.l0 k x0 (wrap64 (x3 + 1))) else (some false))
end
def spec_Balanced.f (k : Nat) (l0 : List (S25)) : Option (Bool) := (spec_TasksOk.f k l0).bind fun t127 => (if t127 = true then (spec_Balanced.l0 k l0 0) else (some false))
def impl_between.f (a0 : Int) (a1 : Int) (a2 : Int) : Option (Bool) := if a0 ≥ a1 then (some (decide (a0 ≤ a2))) else (some false)
def impl_isMinute.f (a0 : Int) : Option (Bool) := (impl_between.f a0 0 100000).bind fun t131 => (some t131)
def impl_taskOk.f (a0_0 : Int) (a0_1 : Int) (a0_2 : Int) (a0_3 : Int) (a0_4 : Int) : Option (Bool) := (impl_between.f a0_0 0 29).bind fun t133 => (if t133 = true then ((impl_between.f a0_1 0 29).bind fun t134 => (if t134 = true then ((impl_isMinute.f a0_2).bind fun t135 => (if t135 = true then ((impl_isMinute.f a0_3).bind fun t136 => (if t136 = true then (if a0_2 < a0_3 then ((impl_between.f a0_4 0 2000).bind fun t137 => (some t137)) else (some false)) else (some false))) else (some false))) else (some false))) else (some false))
def impl_TasksOk.l0 : Nat → List (S25) → Int → Int → Option (Bool)
  | 0, _, _, _ => none
  | k + 1, x8, x9, x10 => if x10 < x9 then (if 0 ≤ x10 then (if x10 < (x8.length : Int) then ((impl_taskOk.f ((rd_T25 x8 x10).f0) ((rd_T25 x8 x10).f1) ((rd_T25 x8 x10).f2) ((rd_T25 x8 x10).f3) ((rd_T25 x8 x10).f4)).bind fun t140 => (if t140 = true then (impl_TasksOk.l0 k x8 x9 (wrap64 (x10 + 1))) else (some false))) else (none)) else (none)) else (some true)
def impl_TasksOk.f (k : Nat) (l0 : List (S25)) : Option (Bool) := if (l0.length : Int) > 40 then (some false) else (impl_TasksOk.l0 k l0 (l0.length : Int) 0)
def impl_Balanced.l1 (xs : List Int) (i d : Int) : List Int := xs.set i.toNat (wrap64 (xs.getD i.toNat 0 + d))
def impl_Balanced.l0 : List S25 → List Int → Option Bool
  | [], xs => some (xs.all (fun x => decide (x = 0)))
  | t :: ts, xs => if 0 ≤ t.f0 ∧ t.f0 < 30 ∧ 0 ≤ t.f1 ∧ t.f1 < 30 then impl_Balanced.l0 ts (impl_Balanced.l1 (impl_Balanced.l1 xs t.f0 1) t.f1 (-1)) else none
def impl_Balanced.f (k : Nat) (l0 : List S25) : Option Bool := (impl_TasksOk.f k l0).bind fun t => if t = true then impl_Balanced.l0 l0 (List.replicate 30 0) else some false
def laws_FnExactBalanced.f (k : Nat) (l0 : List (S23)) : Option (Bool) := (laws_szTaskS.f l0 1048576).bind fun t141 => (if t141 < 0 then (some true) else ((laws_toTaskS.f k l0).bind fun t142 => ((spec_Balanced.f k t142).bind fun t145 => ((laws_toTaskS.f k l0).bind fun t146 => ((impl_Balanced.f k t146).bind fun t149 => (if (t149 != t145) = true then (some false) else ((laws_toTaskS.f k l0).bind fun t150 => ((laws_eqTaskS.f k t146 t150).bind fun t153 => (if t153 = true then (some true) else (some false))))))))))
end Go.Proofs.Ytoalolbifakpiaa.P

/- The functions of the program as plain Lean functions, without memory and machine; written by a program of the session. -/
import Derived.Test.YtoalolbifakpiaaProg
import Derived.Test.YtoalolbifakpiaaV
namespace Go.Proofs.Ytoalolbifakpiaa.P
open Go.RowKit Go.Proofs.YtoalolbifakpiaaW.PrintWords Go.Proofs.YtoalolbifakpiaaW.PrintLast Go.Proofs.YtoalolbifakpiaaW.PrintMore
set_option linter.unusedVariables false

structure S23 where
  f0 : Int
  f1 : Int
  f2 : Int
  f3 : Int
  f4 : Int
def z23 : S23 := ⟨(0 : Int), (0 : Int), (0 : Int), (0 : Int), (0 : Int)⟩
def rd_T23 (xs : List S23) (i : Int) : S23 := xs.getD i.toNat z23
structure S25 where
  f0 : Int
  f1 : Int
  f2 : Int
  f3 : Int
  f4 : Int
def z25 : S25 := ⟨(0 : Int), (0 : Int), (0 : Int), (0 : Int), (0 : Int)⟩
def rd_T25 (xs : List S25) (i : Int) : S25 := xs.getD i.toNat z25
def rd_L3 (xs : List (List Int)) (i : Int) : (List Int) := xs.getD i.toNat ([] : List Int)
def rd_L4 (xs : List (List S23)) (i : Int) : (List S23) := xs.getD i.toNat ([] : List S23)
def laws_szTaskS.f (l0 : List (S23)) (a1 : Int) : Option (Int) := if (wrap64 (a1 - (l0.length : Int))) < 0 then (some (-1)) else (some (wrap64 (a1 - (l0.length : Int))))
def laws_toTask.f (a0_0 : Int) (a0_1 : Int) (a0_2 : Int) (a0_3 : Int) (a0_4 : Int) : Option (Int × Int × Int × Int × Int) := some (a0_0, a0_1, a0_2, a0_3, a0_4)
def laws_toTaskS.l0 : Nat → List (S23) → List (S25) → Int → Option ((List (S25)))
  | 0, _, _, _ => none
  | k + 1, x0, x3, x4 => if x4 < (x0.length : Int) then (if 0 ≤ x4 then ((laws_toTask.f ((rd_T23 x0 x4).f0) ((rd_T23 x0 x4).f1) ((rd_T23 x0 x4).f2) ((rd_T23 x0 x4).f3) ((rd_T23 x0 x4).f4)).bind fun bt108 => (if x4 < (x3.length : Int) then (laws_toTaskS.l0 k x0 (x3.set (x4 : Int).toNat (⟨bt108.1, bt108.2.1, bt108.2.2.1, bt108.2.2.2.1, bt108.2.2.2.2⟩ : S25)) (wrap64 (x4 + 1))) else (none))) else (none)) else (some x3)
def laws_toTaskS.f (k : Nat) (l0 : List (S23)) : Option ((List (S25))) := if 0 ≤ (l0.length : Int) then (if ((l0.length : Int) : Int).toNat ≤ 7036874417766 then (laws_toTaskS.l0 k l0 (List.replicate ((l0.length : Int) : Int).toNat z25) 0) else (none)) else (none)
def laws_eqTask.f (a0_0 : Int) (a0_1 : Int) (a0_2 : Int) (a0_3 : Int) (a0_4 : Int) (a1_0 : Int) (a1_1 : Int) (a1_2 : Int) (a1_3 : Int) (a1_4 : Int) : Option (Bool) := if a0_0 = a1_0 then (if a0_1 = a1_1 then (if a0_2 = a1_2 then (if a0_3 = a1_3 then (if a0_4 = a1_4 then (some true) else (some false)) else (some false)) else (some false)) else (some false)) else (some false)
def laws_eqTaskS.l0 : Nat → List (S25) → List (S25) → Int → Option (Bool)
  | 0, _, _, _ => none
  | k + 1, x0, x1, x5 => if x5 < (x0.length : Int) then (if 0 ≤ x5 then (if x5 < (x1.length : Int) then ((laws_eqTask.f ((rd_T25 x0 x5).f0) ((rd_T25 x0 x5).f1) ((rd_T25 x0 x5).f2) ((rd_T25 x0 x5).f3) ((rd_T25 x0 x5).f4) ((rd_T25 x1 x5).f0) ((rd_T25 x1 x5).f1) ((rd_T25 x1 x5).f2) ((rd_T25 x1 x5).f3) ((rd_T25 x1 x5).f4)).bind fun t118 => (if t118 = true then (laws_eqTaskS.l0 k x0 x1 (wrap64 (x5 + 1))) else (some false))) else (none)) else (none)) else (some true)
def laws_eqTaskS.f (k : Nat) (l0 : List (S25)) (l1 : List (S25)) : Option (Bool) := if (l0.length : Int) = (l1.length : Int) then (laws_eqTaskS.l0 k l0 l1 0) else (some false)
def impl_between.f (a0 : Int) (a1 : Int) (a2 : Int) : Option (Bool) := if a0 ≥ a1 then (some (decide (a0 ≤ a2))) else (some false)
def impl_isMinute.f (a0 : Int) : Option (Bool) := (impl_between.f a0 0 100000).bind fun t119 => (some t119)
def impl_taskOk.f (a0_0 : Int) (a0_1 : Int) (a0_2 : Int) (a0_3 : Int) (a0_4 : Int) : Option (Bool) := (impl_between.f a0_0 0 29).bind fun t121 => (if t121 = true then ((impl_between.f a0_1 0 29).bind fun t122 => (if t122 = true then ((impl_isMinute.f a0_2).bind fun t123 => (if t123 = true then ((impl_isMinute.f a0_3).bind fun t124 => (if t124 = true then (if a0_2 < a0_3 then ((impl_between.f a0_4 0 2000).bind fun t125 => (some t125)) else (some false)) else (some false))) else (some false))) else (some false))) else (some false))
def impl_TasksOk.l0 : Nat → List (S25) → Int → Int → Option (Bool)
  | 0, _, _, _ => none
  | k + 1, x8, x9, x10 => if x10 < x9 then (if 0 ≤ x10 then (if x10 < (x8.length : Int) then ((impl_taskOk.f ((rd_T25 x8 x10).f0) ((rd_T25 x8 x10).f1) ((rd_T25 x8 x10).f2) ((rd_T25 x8 x10).f3) ((rd_T25 x8 x10).f4)).bind fun t128 => (if t128 = true then (impl_TasksOk.l0 k x8 x9 (wrap64 (x10 + 1))) else (some false))) else (none)) else (none)) else (some true)
def impl_TasksOk.f (k : Nat) (l0 : List (S25)) : Option (Bool) := if (l0.length : Int) > 40 then (some false) else (impl_TasksOk.l0 k l0 (l0.length : Int) 0)
def impl_turnOk.f (a0 : Int) : Option (Bool) := (impl_between.f a0 0 120).bind fun t129 => (some t129)
def impl_follows.f (a0_0 : Int) (a0_1 : Int) (a0_2 : Int) (a0_3 : Int) (a0_4 : Int) (a1_0 : Int) (a1_1 : Int) (a1_2 : Int) (a1_3 : Int) (a1_4 : Int) (a2 : Int) : Option (Bool) := if a0_1 = a1_0 then (some (decide ((wrap64 (a0_3 + a2)) ≤ a1_2))) else (some false)
def impl_byDep.l1 (l : List S25) (a b : Nat) : Bool := decide ((rd_T25 l a).f2 < (rd_T25 l b).f2 ∨ ((rd_T25 l a).f2 = (rd_T25 l b).f2 ∧ a ≤ b))
def impl_byDep.l0 (l : List S25) : List Int := ((List.range l.length).mergeSort (impl_byDep.l1 l)).map (fun (i : Nat) => (i : Int))
def impl_byDep.f (k : Nat) (l0 : List S25) : Option (List Int) := if l0.length ≤ 40 then some (impl_byDep.l0 l0) else none
def impl_chains.l3 (turn : Int) (a b : S25) : Bool := decide (a.f1 = b.f0) && decide (wrap64 (a.f3 + turn) ≤ b.f2)
def impl_chains.l2 (us : List (List Int)) (u : Nat) : Int := rd (us.getD u []) (((us.getD u []).length - 1 : Nat) : Int)
def impl_chains.l1 (l : List S25) (turn t : Int) (us : List (List Int)) : Nat → Nat → Int → Int
  | 0, _, best => best
  | k + 1, u, best => if impl_chains.l3 turn (rd_T25 l (impl_chains.l2 us u)) (rd_T25 l t) = true then (if best < 0 then impl_chains.l1 l turn t us k (u + 1) u else if (rd_T25 l (impl_chains.l2 us u)).f3 < (rd_T25 l (impl_chains.l2 us best.toNat)).f3 then impl_chains.l1 l turn t us k (u + 1) u else impl_chains.l1 l turn t us k (u + 1) best) else impl_chains.l1 l turn t us k (u + 1) best
def impl_chains.l0 (l : List S25) (turn : Int) : List Int → List (List Int) → List (List Int)
  | [], us => us
  | t :: ts, us => if impl_chains.l1 l turn t us us.length 0 (-1) < 0 then impl_chains.l0 l turn ts (us ++ [[t]]) else impl_chains.l0 l turn ts (us.set (impl_chains.l1 l turn t us us.length 0 (-1)).toNat (us.getD (impl_chains.l1 l turn t us us.length 0 (-1)).toNat [] ++ [t]))
def impl_chains.f (k : Nat) (l0 : List S25) (a1 : Int) : Option (List (List Int)) := if l0.length ≤ 40 then some (impl_chains.l0 l0 a1 (impl_byDep.l0 l0) []) else none
mutual
def impl_Chains.j0 : Nat → List (S25) → Int → Bool → Option (List Int)
  | 0, _, _, _ => none
  | k + 1, x0, x1, x17 => if x17 = true then (some ([] : List Int)) else (if 0 ≤ (x0.length : Int) then (if ((x0.length : Int) : Int).toNat ≤ 35184372088832 then ((impl_chains.f k x0 x1).bind fun t137 => (impl_Chains.l0 k (List.replicate ((x0.length : Int) : Int).toNat 0) t137 (t137.length : Int) 0)) else (none)) else (none))
def impl_Chains.l0 : Nat → List Int → List (List Int) → Int → Int → Option (List Int)
  | 0, _, _, _, _ => none
  | k + 1, x5, x23, x24, x25 => if x25 < x24 then (if 0 ≤ x25 then (if x25 < (x23.length : Int) then (impl_Chains.l1 k x5 x25 x23 x24 x25 (rd_L3 x23 x25) ((rd_L3 x23 x25).length : Int) 0) else (none)) else (none)) else (some x5)
def impl_Chains.l1 : Nat → List Int → Int → List (List Int) → Int → Int → List Int → Int → Int → Option (List Int)
  | 0, _, _, _, _, _, _, _, _ => none
  | k + 1, x5, x6, x23, x24, x25, x30, x31, x32 => if x32 < x31 then (if 0 ≤ x32 then (if x32 < (x30.length : Int) then (if 0 ≤ (rd x30 x32) then (if (rd x30 x32) < (x5.length : Int) then (impl_Chains.l1 k (x5.set ((rd x30 x32) : Int).toNat x6) x6 x23 x24 x25 x30 x31 (wrap64 (x32 + 1))) else (none)) else (none)) else (none)) else (none)) else (impl_Chains.l0 k x5 x23 x24 (wrap64 (x25 + 1)))
end
def impl_Chains.f (k : Nat) (l0 : List (S25)) (a1 : Int) : Option (List Int) := (impl_TasksOk.f k l0).bind fun t132 => (if t132 = true then ((impl_turnOk.f a1).bind fun t133 => (impl_Chains.j0 k l0 a1 (!t133))) else (impl_Chains.j0 k l0 a1 true))
def spec_l01In.f (a0 : Int) (a1 : Int) (a2 : Int) : Option (Bool) := if a1 ≤ a0 then (some (decide (a0 ≤ a2))) else (some false)
def spec_l16Task.f (a0_0 : Int) (a0_1 : Int) (a0_2 : Int) (a0_3 : Int) (a0_4 : Int) : Option (Bool) := (spec_l01In.f a0_0 0 29).bind fun t144 => (if t144 = true then ((spec_l01In.f a0_1 0 29).bind fun t145 => (if t145 = true then ((spec_l01In.f a0_3 0 100000).bind fun t146 => (if t146 = true then ((spec_l01In.f a0_2 0 (wrap64 (a0_3 - 1))).bind fun t147 => (if t147 = true then ((spec_l01In.f a0_4 0 2000).bind fun t148 => (some t148)) else (some false))) else (some false))) else (some false))) else (some false))
def spec_l16Turn.f (a0 : Int) : Option (Bool) := (spec_l01In.f a0 0 120).bind fun t149 => (some t149)
def spec_Follows.f (a0_0 : Int) (a0_1 : Int) (a0_2 : Int) (a0_3 : Int) (a0_4 : Int) (a1_0 : Int) (a1_1 : Int) (a1_2 : Int) (a1_3 : Int) (a1_4 : Int) (a2 : Int) : Option (Bool) := (spec_l16Task.f a0_0 a0_1 a0_2 a0_3 a0_4).bind fun t152 => (if t152 = true then ((spec_l16Task.f a1_0 a1_1 a1_2 a1_3 a1_4).bind fun t153 => (if t153 = true then ((spec_l16Turn.f a2).bind fun t154 => (if t154 = true then (if a0_1 = a1_0 then (some (decide ((wrap64 (a0_3 + a2)) ≤ a1_2))) else (some false)) else (some false))) else (some false))) else (some false))
def spec_TasksOk.l0 : Nat → List (S25) → Int → Option (Bool)
  | 0, _, _ => none
  | k + 1, x0, x3 => if x3 < (x0.length : Int) then (if 0 ≤ x3 then ((spec_l16Task.f ((rd_T25 x0 x3).f0) ((rd_T25 x0 x3).f1) ((rd_T25 x0 x3).f2) ((rd_T25 x0 x3).f3) ((rd_T25 x0 x3).f4)).bind fun t156 => (if t156 = true then (spec_TasksOk.l0 k x0 (wrap64 (x3 + 1))) else (some false))) else (none)) else (some (decide ((x0.length : Int) ≤ 40)))
def spec_TasksOk.f (k : Nat) (l0 : List (S25)) : Option (Bool) := spec_TasksOk.l0 k l0 0
def spec_l01Has.l0 : Nat → List Int → Int → Int → Option (Bool)
  | 0, _, _, _ => none
  | k + 1, x0, x1, x5 => if x5 < (x0.length : Int) then (if 0 ≤ x5 then (if (rd x0 x5) = x1 then (some true) else (spec_l01Has.l0 k x0 x1 (wrap64 (x5 + 1)))) else (none)) else (some false)
def spec_l01Has.f (k : Nat) (l0 : List Int) (a1 : Int) : Option (Bool) := spec_l01Has.l0 k l0 a1 0
mutual
def spec_l16Order.l0 : Nat → List (S25) → List Int → Option (List Int)
  | 0, _, _ => none
  | k + 1, x0, x3 => if (x3.length : Int) < (x0.length : Int) then (spec_l16Order.l1 k x0 x3 (-1) 0) else (some x3)
def spec_l16Order.l1 : Nat → List (S25) → List Int → Int → Int → Option (List Int)
  | 0, _, _, _, _ => none
  | k + 1, x0, x3, x4, x5 => if x5 < (x0.length : Int) then ((spec_l01Has.f k x3 x5).bind fun t161 => (if t161 = true then (spec_l16Order.l1 k x0 x3 x4 (wrap64 (x5 + 1))) else (if x4 < 0 then (spec_l16Order.l1 k x0 x3 x5 (wrap64 (x5 + 1))) else (if 0 ≤ x5 then (if 0 ≤ x4 then (if x4 < (x0.length : Int) then (if ((rd_T25 x0 x5).f2) < ((rd_T25 x0 x4).f2) then (spec_l16Order.l1 k x0 x3 x5 (wrap64 (x5 + 1))) else (spec_l16Order.l1 k x0 x3 x4 (wrap64 (x5 + 1)))) else (none)) else (none)) else (none))))) else (if x3.length < 17592186044416 then (spec_l16Order.l0 k x0 (x3 ++ [x4])) else (none))
end
def spec_l16Order.f (k : Nat) (l0 : List (S25)) : Option (List Int) := spec_l16Order.l0 k l0 (([] : List Int))
mutual
def spec_Chains.j0 : Nat → List (S25) → Int → Bool → Option (List Int)
  | 0, _, _, _ => none
  | k + 1, x0, x1, x20 => if x20 = true then (some ([] : List Int)) else (spec_Chains.l0 k x0 x1 (([] : List Int)) 0)
def spec_Chains.l0 : Nat → List (S25) → Int → List Int → Int → Option (List Int)
  | 0, _, _, _, _ => none
  | k + 1, x0, x1, x5, x6 => if x6 < (x0.length : Int) then (if x5.length < 17592186044416 then (spec_Chains.l0 k x0 x1 (x5 ++ [(-1)]) (wrap64 (x6 + 1))) else (none)) else ((spec_l16Order.f k x0).bind fun t175 => (spec_Chains.l1 k x0 x1 x5 t175 (([] : List Int)) 0))
def spec_Chains.l1 : Nat → List (S25) → Int → List Int → List Int → List Int → Int → Option (List Int)
  | 0, _, _, _, _, _, _ => none
  | k + 1, x0, x1, x5, x7, x8, x9 => if x9 < (x7.length : Int) then (if 0 ≤ x9 then (spec_Chains.l2 k x0 x1 x5 x7 x8 x9 (rd x7 x9) (-1) 0) else (none)) else (some x5)
def spec_Chains.l2 : Nat → List (S25) → Int → List Int → List Int → List Int → Int → Int → Int → Int → Option (List Int)
  | 0, _, _, _, _, _, _, _, _, _ => none
  | k + 1, x0, x1, x5, x7, x8, x9, x10, x11, x12 => if x12 < (x8.length : Int) then (if 0 ≤ x12 then (if 0 ≤ (rd x8 x12) then (if (rd x8 x12) < (x0.length : Int) then (if 0 ≤ x10 then (if x10 < (x0.length : Int) then ((spec_Follows.f ((rd_T25 x0 (rd x8 x12)).f0) ((rd_T25 x0 (rd x8 x12)).f1) ((rd_T25 x0 (rd x8 x12)).f2) ((rd_T25 x0 (rd x8 x12)).f3) ((rd_T25 x0 (rd x8 x12)).f4) ((rd_T25 x0 x10).f0) ((rd_T25 x0 x10).f1) ((rd_T25 x0 x10).f2) ((rd_T25 x0 x10).f3) ((rd_T25 x0 x10).f4) x1).bind fun t185 => (if t185 = true then (if x11 < 0 then (spec_Chains.l2 k x0 x1 x5 x7 x8 x9 x10 x12 (wrap64 (x12 + 1))) else (if 0 ≤ x11 then (if x11 < (x8.length : Int) then (if 0 ≤ (rd x8 x11) then (if (rd x8 x11) < (x0.length : Int) then (if ((rd_T25 x0 (rd x8 x12)).f3) < ((rd_T25 x0 (rd x8 x11)).f3) then (spec_Chains.l2 k x0 x1 x5 x7 x8 x9 x10 x12 (wrap64 (x12 + 1))) else (spec_Chains.l2 k x0 x1 x5 x7 x8 x9 x10 x11 (wrap64 (x12 + 1)))) else (none)) else (none)) else (none)) else (none))) else (spec_Chains.l2 k x0 x1 x5 x7 x8 x9 x10 x11 (wrap64 (x12 + 1))))) else (none)) else (none)) else (none)) else (none)) else (none)) else (if x11 < 0 then (if x8.length < 17592186044416 then ((some (x8 ++ [x10] : List Int)).bind fun y190 => (if 0 ≤ (x8.length : Int) then (if (x8.length : Int) < (y190.length : Int) then (if 0 ≤ x10 then (if x10 < (x5.length : Int) then (spec_Chains.l1 k x0 x1 (x5.set (x10 : Int).toNat (x8.length : Int)) x7 (y190.set ((x8.length : Int) : Int).toNat x10) (wrap64 (x9 + 1))) else (none)) else (none)) else (none)) else (none))) else (none)) else (if 0 ≤ x11 then (if x11 < (x8.length : Int) then (if 0 ≤ x10 then (if x10 < (x5.length : Int) then (spec_Chains.l1 k x0 x1 (x5.set (x10 : Int).toNat x11) x7 (x8.set (x11 : Int).toNat x10) (wrap64 (x9 + 1))) else (none)) else (none)) else (none)) else (none)))
end
def spec_Chains.f (k : Nat) (l0 : List (S25)) (a1 : Int) : Option (List Int) := (spec_TasksOk.f k l0).bind fun t167 => (if t167 = true then ((spec_l16Turn.f a1).bind fun t168 => (spec_Chains.j0 k l0 a1 (!t168))) else (spec_Chains.j0 k l0 a1 true))
def laws_eqIntS.l0 : Nat → List Int → List Int → Int → Option (Bool)
  | 0, _, _, _ => none
  | k + 1, x0, x1, x5 => if x5 < (x0.length : Int) then (if 0 ≤ x5 then (if x5 < (x1.length : Int) then (if (rd x0 x5) = (rd x1 x5) then (laws_eqIntS.l0 k x0 x1 (wrap64 (x5 + 1))) else (some false)) else (none)) else (none)) else (some true)
def laws_eqIntS.f (k : Nat) (l0 : List Int) (l1 : List Int) : Option (Bool) := if (l0.length : Int) = (l1.length : Int) then (laws_eqIntS.l0 k l0 l1 0) else (some false)
def laws_markTaskS.l0 : Nat → List (S25) → Int → Int → Option (Int × (List (S25)))
  | 0, _, _, _ => none
  | k + 1, x0, x1, x5 => if x5 < (x0.length : Int) then (if 0 ≤ x5 then ((some (x0.set (x5 : Int).toNat (⟨x1, (rd_T25 x0 x5).f1, (rd_T25 x0 x5).f2, (rd_T25 x0 x5).f3, (rd_T25 x0 x5).f4⟩ : S25) : List (S25))).bind fun y199 => ((some (y199.set (x5 : Int).toNat (⟨(rd_T25 y199 x5).f0, wrap64 (x1 + 1), (rd_T25 y199 x5).f2, (rd_T25 y199 x5).f3, (rd_T25 y199 x5).f4⟩ : S25) : List (S25))).bind fun y200 => ((some (y200.set (x5 : Int).toNat (⟨(rd_T25 y200 x5).f0, (rd_T25 y200 x5).f1, wrap64 ((wrap64 (x1 + 1)) + 1), (rd_T25 y200 x5).f3, (rd_T25 y200 x5).f4⟩ : S25) : List (S25))).bind fun y201 => ((some (y201.set (x5 : Int).toNat (⟨(rd_T25 y201 x5).f0, (rd_T25 y201 x5).f1, (rd_T25 y201 x5).f2, wrap64 ((wrap64 ((wrap64 (x1 + 1)) + 1)) + 1), (rd_T25 y201 x5).f4⟩ : S25) : List (S25))).bind fun y202 => (laws_markTaskS.l0 k (y202.set (x5 : Int).toNat (⟨(rd_T25 y202 x5).f0, (rd_T25 y202 x5).f1, (rd_T25 y202 x5).f2, (rd_T25 y202 x5).f3, wrap64 ((wrap64 ((wrap64 ((wrap64 (x1 + 1)) + 1)) + 1)) + 1)⟩ : S25)) (wrap64 ((wrap64 ((wrap64 ((wrap64 ((wrap64 (x1 + 1)) + 1)) + 1)) + 1)) + 1)) (wrap64 (x5 + 1))))))) else (none)) else (some (x1, x0))
def laws_markTaskS.f (k : Nat) (l0 : List (S25)) (a1 : Int) : Option (Int × (List (S25))) := laws_markTaskS.l0 k l0 a1 0
def laws_markIntS.l0 : Nat → List Int → Int → Int → Option (Int × List Int)
  | 0, _, _, _ => none
  | k + 1, x0, x1, x5 => if x5 < (x0.length : Int) then (if 0 ≤ x5 then (laws_markIntS.l0 k (x0.set (x5 : Int).toNat x1) (wrap64 (x1 + 1)) (wrap64 (x5 + 1))) else (none)) else (some (x1, x0))
def laws_markIntS.f (k : Nat) (l0 : List Int) (a1 : Int) : Option (Int × List Int) := laws_markIntS.l0 k l0 a1 0
def laws_heldIntS.l0 : Nat → List Int → Int → Int → Option (Int)
  | 0, _, _, _ => none
  | k + 1, x0, x1, x5 => if x5 < (x0.length : Int) then (if 0 ≤ x5 then (if (rd x0 x5) = x1 then (laws_heldIntS.l0 k x0 (wrap64 (x1 + 1)) (wrap64 (x5 + 1))) else (some (-1))) else (none)) else (some x1)
def laws_heldIntS.f (k : Nat) (l0 : List Int) (a1 : Int) : Option (Int) := laws_heldIntS.l0 k l0 a1 0
def laws_FnExactChains.j0 : Nat → List (S23) → Int → List Int → List Int → Bool → Option (Bool)
  | 0, _, _, _, _, _ => none
  | k + 1, x0, x1, x6, x8, x46 => if x46 = true then (some false) else ((laws_markIntS.f k x8 1).bind fun bt227 => ((laws_heldIntS.f k bt227.2 1).bind fun t229 => (if t229 < 0 then (some false) else (if t229 = bt227.1 then ((laws_toTaskS.f k x0).bind fun t230 => ((impl_Chains.f k t230 x1).bind fun t233 => ((laws_eqIntS.f k t233 x6).bind fun t236 => (if t236 = true then ((laws_heldIntS.f k bt227.2 1).bind fun t237 => (if t237 < 0 then (some false) else (if t237 = bt227.1 then (some true) else (some false)))) else (some false))))) else (some false)))))
def laws_FnExactChains.f (k : Nat) (l0 : List (S23)) (a1 : Int) : Option (Bool) := (laws_szTaskS.f l0 1048576).bind fun t206 => (if t206 < 0 then (some true) else ((laws_toTaskS.f k l0).bind fun t207 => ((spec_Chains.f k t207 a1).bind fun t210 => ((laws_toTaskS.f k l0).bind fun t213 => ((impl_Chains.f k t213 a1).bind fun t216 => ((laws_eqIntS.f k t216 t210).bind fun t219 => (if t219 = true then ((laws_toTaskS.f k l0).bind fun t220 => ((laws_eqTaskS.f k t213 t220).bind fun t223 => (if t223 = true then ((laws_markTaskS.f k t213 1).bind fun bt224 => (if bt224.1 < 0 then (laws_FnExactChains.j0 k l0 a1 t210 t216 true) else ((laws_eqIntS.f k t216 t210).bind fun t226 => (laws_FnExactChains.j0 k l0 a1 t210 t216 (!t226))))) else (some false)))) else (some false))))))))
mutual
def impl_Mileage.j0 : Nat → List (S25) → Int → Bool → Option (List Int)
  | 0, _, _, _ => none
  | k + 1, x0, x1, x18 => if x18 = true then (some ([] : List Int)) else ((impl_chains.f k x0 x1).bind fun t243 => (impl_Mileage.l0 k x0 (([] : List Int)) t243 (t243.length : Int) 0))
def impl_Mileage.l0 : Nat → List (S25) → List Int → List (List Int) → Int → Int → Option (List Int)
  | 0, _, _, _, _, _ => none
  | k + 1, x0, x5, x22, x23, x24 => if x24 < x23 then (if 0 ≤ x24 then (if x24 < (x22.length : Int) then (impl_Mileage.l1 k x0 x5 0 x22 x23 x24 (rd_L3 x22 x24) ((rd_L3 x22 x24).length : Int) 0) else (none)) else (none)) else (some x5)
def impl_Mileage.l1 : Nat → List (S25) → List Int → Int → List (List Int) → Int → Int → List Int → Int → Int → Option (List Int)
  | 0, _, _, _, _, _, _, _, _, _ => none
  | k + 1, x0, x5, x8, x22, x23, x24, x28, x29, x30 => if x30 < x29 then (if 0 ≤ x30 then (if x30 < (x28.length : Int) then (if 0 ≤ (rd x28 x30) then (if (rd x28 x30) < (x0.length : Int) then (impl_Mileage.l1 k x0 x5 (wrap64 (x8 + ((rd_T25 x0 (rd x28 x30)).f4))) x22 x23 x24 x28 x29 (wrap64 (x30 + 1))) else (none)) else (none)) else (none)) else (none)) else (if x5.length < 17592186044416 then (impl_Mileage.l0 k x0 (x5 ++ [x8]) x22 x23 (wrap64 (x24 + 1))) else (none))
end
def impl_Mileage.f (k : Nat) (l0 : List (S25)) (a1 : Int) : Option (List Int) := (impl_TasksOk.f k l0).bind fun t238 => (if t238 = true then ((impl_turnOk.f a1).bind fun t239 => (impl_Mileage.j0 k l0 a1 (!t239))) else (impl_Mileage.j0 k l0 a1 true))
def spec_l16Units.l0 : Nat → List Int → Int → Int → Option (Int)
  | 0, _, _, _ => none
  | k + 1, x0, x3, x4 => if x4 < (x0.length : Int) then (if 0 ≤ x4 then (if (rd x0 x4) ≥ x3 then (spec_l16Units.l0 k x0 (wrap64 ((rd x0 x4) + 1)) (wrap64 (x4 + 1))) else (spec_l16Units.l0 k x0 x3 (wrap64 (x4 + 1)))) else (none)) else (some x3)
def spec_l16Units.f (k : Nat) (l0 : List Int) : Option (Int) := spec_l16Units.l0 k l0 0 0
mutual
def spec_Mileage.l0 : Nat → List (S25) → List Int → List Int → Int → Option (List Int)
  | 0, _, _, _, _ => none
  | k + 1, x0, x5, x6, x7 => (spec_l16Units.f k x5).bind fun t260 => (if x7 < t260 then (spec_Mileage.l1 k x0 x5 x6 x7 0 0) else (some x6))
def spec_Mileage.l1 : Nat → List (S25) → List Int → List Int → Int → Int → Int → Option (List Int)
  | 0, _, _, _, _, _, _ => none
  | k + 1, x0, x5, x6, x7, x8, x9 => if x9 < (x5.length : Int) then (if 0 ≤ x9 then (if (rd x5 x9) = x7 then (if x9 < (x0.length : Int) then (spec_Mileage.l1 k x0 x5 x6 x7 (wrap64 (x8 + ((rd_T25 x0 x9).f4))) (wrap64 (x9 + 1))) else (none)) else (spec_Mileage.l1 k x0 x5 x6 x7 x8 (wrap64 (x9 + 1)))) else (none)) else (if x6.length < 17592186044416 then (spec_Mileage.l0 k x0 x5 (x6 ++ [x8]) (wrap64 (x7 + 1))) else (none))
end
def spec_Mileage.f (k : Nat) (l0 : List (S25)) (a1 : Int) : Option (List Int) := (spec_Chains.f k l0 a1).bind fun t254 => (spec_Mileage.l0 k l0 t254 (([] : List Int)) 0)
def laws_FnExactMileage.j0 : Nat → List (S23) → Int → List Int → List Int → Bool → Option (Bool)
  | 0, _, _, _, _, _ => none
  | k + 1, x0, x1, x6, x8, x46 => if x46 = true then (some false) else ((laws_markIntS.f k x8 1).bind fun bt287 => ((laws_heldIntS.f k bt287.2 1).bind fun t289 => (if t289 < 0 then (some false) else (if t289 = bt287.1 then ((laws_toTaskS.f k x0).bind fun t290 => ((impl_Mileage.f k t290 x1).bind fun t293 => ((laws_eqIntS.f k t293 x6).bind fun t296 => (if t296 = true then ((laws_heldIntS.f k bt287.2 1).bind fun t297 => (if t297 < 0 then (some false) else (if t297 = bt287.1 then (some true) else (some false)))) else (some false))))) else (some false)))))
def laws_FnExactMileage.f (k : Nat) (l0 : List (S23)) (a1 : Int) : Option (Bool) := (laws_szTaskS.f l0 1048576).bind fun t266 => (if t266 < 0 then (some true) else ((laws_toTaskS.f k l0).bind fun t267 => ((spec_Mileage.f k t267 a1).bind fun t270 => ((laws_toTaskS.f k l0).bind fun t273 => ((impl_Mileage.f k t273 a1).bind fun t276 => ((laws_eqIntS.f k t276 t270).bind fun t279 => (if t279 = true then ((laws_toTaskS.f k l0).bind fun t280 => ((laws_eqTaskS.f k t273 t280).bind fun t283 => (if t283 = true then ((laws_markTaskS.f k t273 1).bind fun bt284 => (if bt284.1 < 0 then (laws_FnExactMileage.j0 k l0 a1 t270 t276 true) else ((laws_eqIntS.f k t276 t270).bind fun t286 => (laws_FnExactMileage.j0 k l0 a1 t270 t276 (!t286))))) else (some false)))) else (some false))))))))
mutual
def impl_Night.j0 : Nat → List (S25) → Int → Bool → Option (List Int)
  | 0, _, _, _ => none
  | k + 1, x0, x1, x15 => if x15 = true then (some ([] : List Int)) else ((impl_chains.f k x0 x1).bind fun t303 => (impl_Night.l0 k x0 (([] : List Int)) t303 (t303.length : Int) 0))
def impl_Night.l0 : Nat → List (S25) → List Int → List (List Int) → Int → Int → Option (List Int)
  | 0, _, _, _, _, _ => none
  | k + 1, x0, x5, x19, x20, x21 => if x21 < x20 then (if 0 ≤ x21 then (if x21 < (x19.length : Int) then (if 0 ≤ (wrap64 (((rd_L3 x19 x21).length : Int) - 1)) then (if (wrap64 (((rd_L3 x19 x21).length : Int) - 1)) < ((rd_L3 x19 x21).length : Int) then (if 0 ≤ (rd (rd_L3 x19 x21) (wrap64 (((rd_L3 x19 x21).length : Int) - 1))) then (if (rd (rd_L3 x19 x21) (wrap64 (((rd_L3 x19 x21).length : Int) - 1))) < (x0.length : Int) then (if x5.length < 17592186044416 then (impl_Night.l0 k x0 (x5 ++ [(rd_T25 x0 (rd (rd_L3 x19 x21) (wrap64 (((rd_L3 x19 x21).length : Int) - 1)))).f1]) x19 x20 (wrap64 (x21 + 1))) else (none)) else (none)) else (none)) else (none)) else (none)) else (none)) else (none)) else (some x5)
end
def impl_Night.f (k : Nat) (l0 : List (S25)) (a1 : Int) : Option (List Int) := (impl_TasksOk.f k l0).bind fun t298 => (if t298 = true then ((impl_turnOk.f a1).bind fun t299 => (impl_Night.j0 k l0 a1 (!t299))) else (impl_Night.j0 k l0 a1 true))
mutual
def spec_Night.l0 : Nat → List (S25) → List Int → List Int → List Int → Int → Option (List Int)
  | 0, _, _, _, _, _ => none
  | k + 1, x0, x5, x6, x7, x8 => (spec_l16Units.f k x5).bind fun t321 => (if x8 < t321 then (spec_Night.l1 k x0 x5 x6 x7 x8 0 0) else (some x6))
def spec_Night.l1 : Nat → List (S25) → List Int → List Int → List Int → Int → Int → Int → Option (List Int)
  | 0, _, _, _, _, _, _, _ => none
  | k + 1, x0, x5, x6, x7, x8, x9, x10 => if x10 < (x7.length : Int) then (if 0 ≤ x10 then (if 0 ≤ (rd x7 x10) then (if (rd x7 x10) < (x5.length : Int) then (if (rd x5 (rd x7 x10)) = x8 then (if (rd x7 x10) < (x0.length : Int) then (spec_Night.l1 k x0 x5 x6 x7 x8 ((rd_T25 x0 (rd x7 x10)).f1) (wrap64 (x10 + 1))) else (none)) else (spec_Night.l1 k x0 x5 x6 x7 x8 x9 (wrap64 (x10 + 1)))) else (none)) else (none)) else (none)) else (if x6.length < 17592186044416 then (spec_Night.l0 k x0 x5 (x6 ++ [x9]) x7 (wrap64 (x8 + 1))) else (none))
end
def spec_Night.f (k : Nat) (l0 : List (S25)) (a1 : Int) : Option (List Int) := (spec_Chains.f k l0 a1).bind fun t312 => (if (t312.length : Int) = 0 then (some ([] : List Int)) else ((spec_l16Order.f k l0).bind fun t318 => (spec_Night.l0 k l0 t312 (([] : List Int)) t318 0)))
def laws_FnExactNight.j0 : Nat → List (S23) → Int → List Int → List Int → Bool → Option (Bool)
  | 0, _, _, _, _, _ => none
  | k + 1, x0, x1, x6, x8, x46 => if x46 = true then (some false) else ((laws_markIntS.f k x8 1).bind fun bt350 => ((laws_heldIntS.f k bt350.2 1).bind fun t352 => (if t352 < 0 then (some false) else (if t352 = bt350.1 then ((laws_toTaskS.f k x0).bind fun t353 => ((impl_Night.f k t353 x1).bind fun t356 => ((laws_eqIntS.f k t356 x6).bind fun t359 => (if t359 = true then ((laws_heldIntS.f k bt350.2 1).bind fun t360 => (if t360 < 0 then (some false) else (if t360 = bt350.1 then (some true) else (some false)))) else (some false))))) else (some false)))))
def laws_FnExactNight.f (k : Nat) (l0 : List (S23)) (a1 : Int) : Option (Bool) := (laws_szTaskS.f l0 1048576).bind fun t329 => (if t329 < 0 then (some true) else ((laws_toTaskS.f k l0).bind fun t330 => ((spec_Night.f k t330 a1).bind fun t333 => ((laws_toTaskS.f k l0).bind fun t336 => ((impl_Night.f k t336 a1).bind fun t339 => ((laws_eqIntS.f k t339 t333).bind fun t342 => (if t342 = true then ((laws_toTaskS.f k l0).bind fun t343 => ((laws_eqTaskS.f k t336 t343).bind fun t346 => (if t346 = true then ((laws_markTaskS.f k t336 1).bind fun bt347 => (if bt347.1 < 0 then (laws_FnExactNight.j0 k l0 a1 t333 t339 true) else ((laws_eqIntS.f k t339 t333).bind fun t349 => (laws_FnExactNight.j0 k l0 a1 t333 t339 (!t349))))) else (some false)))) else (some false))))))))
mutual
def spec_Due.l0 : Nat → List (S25) → Int → List Int → List Int → List Int → Int → Option (List Int)
  | 0, _, _, _, _, _, _ => none
  | k + 1, x0, x2, x7, x8, x9, x10 => (spec_l16Units.f k x7).bind fun t371 => (if x10 < t371 then (spec_Due.l1 k x0 x2 x7 x8 x9 x10 0 (-1) 0) else (some x8))
def spec_Due.l1 : Nat → List (S25) → Int → List Int → List Int → List Int → Int → Int → Int → Int → Option (List Int)
  | 0, _, _, _, _, _, _, _, _, _ => none
  | k + 1, x0, x2, x7, x8, x9, x10, x11, x12, x13 => if x13 < (x9.length : Int) then (if 0 ≤ x13 then (if 0 ≤ (rd x9 x13) then (if (rd x9 x13) < (x7.length : Int) then (if (rd x7 (rd x9 x13)) = x10 then (if (rd x9 x13) < (x0.length : Int) then (if (wrap64 (x11 + ((rd_T25 x0 (rd x9 x13)).f4))) > x2 then (if x12 < 0 then (spec_Due.l1 k x0 x2 x7 x8 x9 x10 (wrap64 (x11 + ((rd_T25 x0 (rd x9 x13)).f4))) (rd x9 x13) (wrap64 (x13 + 1))) else (spec_Due.l1 k x0 x2 x7 x8 x9 x10 (wrap64 (x11 + ((rd_T25 x0 (rd x9 x13)).f4))) x12 (wrap64 (x13 + 1)))) else (spec_Due.l1 k x0 x2 x7 x8 x9 x10 (wrap64 (x11 + ((rd_T25 x0 (rd x9 x13)).f4))) x12 (wrap64 (x13 + 1)))) else (none)) else (spec_Due.l1 k x0 x2 x7 x8 x9 x10 x11 x12 (wrap64 (x13 + 1)))) else (none)) else (none)) else (none)) else (if x8.length < 17592186044416 then (spec_Due.l0 k x0 x2 x7 (x8 ++ [x12]) x9 (wrap64 (x10 + 1))) else (none))
end
def spec_Due.f (k : Nat) (l0 : List (S25)) (a1 : Int) (a2 : Int) : Option (List Int) := (spec_l01In.f a2 0 1000000).bind fun t361 => (if t361 = true then ((spec_Chains.f k l0 a1).bind fun t362 => (if (t362.length : Int) = 0 then (some ([] : List Int)) else ((spec_l16Order.f k l0).bind fun t368 => (spec_Due.l0 k l0 a2 t362 (([] : List Int)) t368 0)))) else (some ([] : List Int)))
mutual
def impl_Due.j0 : Nat → List (S25) → Int → Int → Bool → Option (List Int)
  | 0, _, _, _, _ => none
  | k + 1, x0, x1, x2, x26 => if x26 = true then (some ([] : List Int)) else ((impl_chains.f k x0 x1).bind fun t386 => (impl_Due.l0 k x0 x2 (([] : List Int)) t386 (t386.length : Int) 0))
def impl_Due.l0 : Nat → List (S25) → Int → List Int → List (List Int) → Int → Int → Option (List Int)
  | 0, _, _, _, _, _, _ => none
  | k + 1, x0, x2, x7, x30, x31, x32 => if x32 < x31 then (if 0 ≤ x32 then (if x32 < (x30.length : Int) then (impl_Due.l1 k x0 x2 x7 (-1) 0 x30 x31 x32 (rd_L3 x30 x32) ((rd_L3 x30 x32).length : Int) 0) else (none)) else (none)) else (some x7)
def impl_Due.l1 : Nat → List (S25) → Int → List Int → Int → Int → List (List Int) → Int → Int → List Int → Int → Int → Option (List Int)
  | 0, _, _, _, _, _, _, _, _, _, _, _ => none
  | k + 1, x0, x2, x7, x10, x11, x30, x31, x32, x36, x37, x38 => if x38 < x37 then (if 0 ≤ x38 then (if x38 < (x36.length : Int) then (if 0 ≤ (rd x36 x38) then (if (rd x36 x38) < (x0.length : Int) then (if x10 < 0 then (if (wrap64 (x11 + ((rd_T25 x0 (rd x36 x38)).f4))) > x2 then (impl_Due.l1 k x0 x2 x7 (rd x36 x38) (wrap64 (x11 + ((rd_T25 x0 (rd x36 x38)).f4))) x30 x31 x32 x36 x37 (wrap64 (x38 + 1))) else (impl_Due.l1 k x0 x2 x7 x10 (wrap64 (x11 + ((rd_T25 x0 (rd x36 x38)).f4))) x30 x31 x32 x36 x37 (wrap64 (x38 + 1)))) else (impl_Due.l1 k x0 x2 x7 x10 (wrap64 (x11 + ((rd_T25 x0 (rd x36 x38)).f4))) x30 x31 x32 x36 x37 (wrap64 (x38 + 1)))) else (none)) else (none)) else (none)) else (none)) else (if x7.length < 17592186044416 then (impl_Due.l0 k x0 x2 (x7 ++ [x10]) x30 x31 (wrap64 (x32 + 1))) else (none))
end
def impl_Due.f (k : Nat) (l0 : List (S25)) (a1 : Int) (a2 : Int) : Option (List Int) := (impl_TasksOk.f k l0).bind fun t380 => (if t380 = true then ((impl_turnOk.f a1).bind fun t381 => (if t381 = true then ((impl_between.f a2 0 1000000).bind fun t382 => (impl_Due.j0 k l0 a1 a2 (!t382))) else (impl_Due.j0 k l0 a1 a2 true))) else (impl_Due.j0 k l0 a1 a2 true))
def laws_FnExactDue.j0 : Nat → List (S23) → Int → Int → List Int → List Int → Bool → Option (Bool)
  | 0, _, _, _, _, _, _ => none
  | k + 1, x0, x1, x2, x8, x10, x50 => if x50 = true then (some false) else ((laws_markIntS.f k x10 1).bind fun bt416 => ((laws_heldIntS.f k bt416.2 1).bind fun t418 => (if t418 < 0 then (some false) else (if t418 = bt416.1 then ((laws_toTaskS.f k x0).bind fun t419 => ((impl_Due.f k t419 x1 x2).bind fun t422 => ((laws_eqIntS.f k t422 x8).bind fun t425 => (if t425 = true then ((laws_heldIntS.f k bt416.2 1).bind fun t426 => (if t426 < 0 then (some false) else (if t426 = bt416.1 then (some true) else (some false)))) else (some false))))) else (some false)))))
def laws_FnExactDue.f (k : Nat) (l0 : List (S23)) (a1 : Int) (a2 : Int) : Option (Bool) := (laws_szTaskS.f l0 1048576).bind fun t395 => (if t395 < 0 then (some true) else ((laws_toTaskS.f k l0).bind fun t396 => ((spec_Due.f k t396 a1 a2).bind fun t399 => ((laws_toTaskS.f k l0).bind fun t402 => ((impl_Due.f k t402 a1 a2).bind fun t405 => ((laws_eqIntS.f k t405 t399).bind fun t408 => (if t408 = true then ((laws_toTaskS.f k l0).bind fun t409 => ((laws_eqTaskS.f k t402 t409).bind fun t412 => (if t412 = true then ((laws_markTaskS.f k t402 1).bind fun bt413 => (if bt413.1 < 0 then (laws_FnExactDue.j0 k l0 a1 a2 t399 t405 true) else ((laws_eqIntS.f k t405 t399).bind fun t415 => (laws_FnExactDue.j0 k l0 a1 a2 t399 t405 (!t415))))) else (some false)))) else (some false))))))))
end Go.Proofs.Ytoalolbifakpiaa.P

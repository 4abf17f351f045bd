/- The functions of the program as plain Lean functions, without memory and machine; written by a program of the session. -/
import Derived.Test.YtoalolbifakpiaaProg
import Derived.Test.YtoalolbifakpiaaV
namespace Go.Proofs.Ytoalolbifakpiaa.P
open Go.RowKit Go.Proofs.YtoalolbifakpiaaW.PrintWords Go.Proofs.YtoalolbifakpiaaW.PrintLast Go.Proofs.YtoalolbifakpiaaW.PrintMore
set_option linter.unusedVariables false

structure S23 where
  f0 : Int
  f1 : Int
  f2 : Int
  f3 : Int
  f4 : Int
def z23 : S23 := ⟨(0 : Int), (0 : Int), (0 : Int), (0 : Int), (0 : Int)⟩
def rd_T23 (xs : List S23) (i : Int) : S23 := xs.getD i.toNat z23
structure S25 where
  f0 : Int
  f1 : Int
  f2 : Int
  f3 : Int
  f4 : Int
def z25 : S25 := ⟨(0 : Int), (0 : Int), (0 : Int), (0 : Int), (0 : Int)⟩
def rd_T25 (xs : List S25) (i : Int) : S25 := xs.getD i.toNat z25
def rd_L3 (xs : List (List Int)) (i : Int) : (List Int) := xs.getD i.toNat ([] : List Int)
def rd_L4 (xs : List (List S23)) (i : Int) : (List S23) := xs.getD i.toNat ([] : List S23)
def laws_szTaskS.f (l0 : List (S23)) (a1 : Int) : Option (Int) := if (wrap64 (a1 - (l0.length : Int))) < 0 then (some (-1)) else (some (wrap64 (a1 - (l0.length : Int))))
def laws_toTask.f (a0_0 : Int) (a0_1 : Int) (a0_2 : Int) (a0_3 : Int) (a0_4 : Int) : Option (Int × Int × Int × Int × Int) := some (a0_0, a0_1, a0_2, a0_3, a0_4)
def laws_toTaskS.l0 : Nat → List (S23) → List (S25) → Int → Option ((List (S25)))
  | 0, _, _, _ => none
  | k + 1, x0, x3, x4 => if x4 < (x0.length : Int) then (if 0 ≤ x4 then ((laws_toTask.f ((rd_T23 x0 x4).f0) ((rd_T23 x0 x4).f1) ((rd_T23 x0 x4).f2) ((rd_T23 x0 x4).f3) ((rd_T23 x0 x4).f4)).bind fun bt108 => (if x4 < (x3.length : Int) then (laws_toTaskS.l0 k x0 (x3.set (x4 : Int).toNat (⟨bt108.1, bt108.2.1, bt108.2.2.1, bt108.2.2.2.1, bt108.2.2.2.2⟩ : S25)) (wrap64 (x4 + 1))) else (none))) else (none)) else (some x3)
def laws_toTaskS.f (k : Nat) (l0 : List (S23)) : Option ((List (S25))) := if 0 ≤ (l0.length : Int) then (if ((l0.length : Int) : Int).toNat ≤ 7036874417766 then (laws_toTaskS.l0 k l0 (List.replicate ((l0.length : Int) : Int).toNat z25) 0) else (none)) else (none)
def laws_eqTask.f (a0_0 : Int) (a0_1 : Int) (a0_2 : Int) (a0_3 : Int) (a0_4 : Int) (a1_0 : Int) (a1_1 : Int) (a1_2 : Int) (a1_3 : Int) (a1_4 : Int) : Option (Bool) := if a0_0 = a1_0 then (if a0_1 = a1_1 then (if a0_2 = a1_2 then (if a0_3 = a1_3 then (if a0_4 = a1_4 then (some true) else (some false)) else (some false)) else (some false)) else (some false)) else (some false)
def laws_eqTaskS.l0 : Nat → List (S25) → List (S25) → Int → Option (Bool)
  | 0, _, _, _ => none
  | k + 1, x0, x1, x5 => if x5 < (x0.length : Int) then (if 0 ≤ x5 then (if x5 < (x1.length : Int) then ((laws_eqTask.f ((rd_T25 x0 x5).f0) ((rd_T25 x0 x5).f1) ((rd_T25 x0 x5).f2) ((rd_T25 x0 x5).f3) ((rd_T25 x0 x5).f4) ((rd_T25 x1 x5).f0) ((rd_T25 x1 x5).f1) ((rd_T25 x1 x5).f2) ((rd_T25 x1 x5).f3) ((rd_T25 x1 x5).f4)).bind fun t118 => (if t118 = true then (laws_eqTaskS.l0 k x0 x1 (wrap64 (x5 + 1))) else (some false))) else (none)) else (none)) else (some true)
def laws_eqTaskS.f (k : Nat) (l0 : List (S25)) (l1 : List (S25)) : Option (Bool) := if (l0.length : Int) = (l1.length : Int) then (laws_eqTaskS.l0 k l0 l1 0) else (some false)
def impl_between.f (a0 : Int) (a1 : Int) (a2 : Int) : Option (Bool) := if a0 ≥ a1 then (some (decide (a0 ≤ a2))) else (some false)
def impl_isMinute.f (a0 : Int) : Option (Bool) := (impl_between.f a0 0 100000).bind fun t119 => (some t119)
def impl_taskOk.f (a0_0 : Int) (a0_1 : Int) (a0_2 : Int) (a0_3 : Int) (a0_4 : Int) : Option (Bool) := (impl_between.f a0_0 0 29).bind fun t121 => (if t121 = true then ((impl_between.f a0_1 0 29).bind fun t122 => (if t122 = true then ((impl_isMinute.f a0_2).bind fun t123 => (if t123 = true then ((impl_isMinute.f a0_3).bind fun t124 => (if t124 = true then (if a0_2 < a0_3 then ((impl_between.f a0_4 0 2000).bind fun t125 => (some t125)) else (some false)) else (some false))) else (some false))) else (some false))) else (some false))
def impl_TasksOk.l0 : Nat → List (S25) → Int → Int → Option (Bool)
  | 0, _, _, _ => none
  | k + 1, x8, x9, x10 => if x10 < x9 then (if 0 ≤ x10 then (if x10 < (x8.length : Int) then ((impl_taskOk.f ((rd_T25 x8 x10).f0) ((rd_T25 x8 x10).f1) ((rd_T25 x8 x10).f2) ((rd_T25 x8 x10).f3) ((rd_T25 x8 x10).f4)).bind fun t128 => (if t128 = true then (impl_TasksOk.l0 k x8 x9 (wrap64 (x10 + 1))) else (some false))) else (none)) else (none)) else (some true)
def impl_TasksOk.f (k : Nat) (l0 : List (S25)) : Option (Bool) := if (l0.length : Int) > 40 then (some false) else (impl_TasksOk.l0 k l0 (l0.length : Int) 0)
def impl_turnOk.f (a0 : Int) : Option (Bool) := (impl_between.f a0 0 120).bind fun t129 => (some t129)
def impl_follows.f (a0_0 : Int) (a0_1 : Int) (a0_2 : Int) (a0_3 : Int) (a0_4 : Int) (a1_0 : Int) (a1_1 : Int) (a1_2 : Int) (a1_3 : Int) (a1_4 : Int) (a2 : Int) : Option (Bool) := if a0_1 = a1_0 then (some (decide ((wrap64 (a0_3 + a2)) ≤ a1_2))) else (some false)
def impl_byDep.l1 (l : List S25) (a b : Nat) : Bool := decide ((rd_T25 l a).f2 < (rd_T25 l b).f2 ∨ ((rd_T25 l a).f2 = (rd_T25 l b).f2 ∧ a ≤ b))
def impl_byDep.l0 (l : List S25) : List Int := ((List.range l.length).mergeSort (impl_byDep.l1 l)).map (fun (i : Nat) => (i : Int))
def impl_byDep.f (k : Nat) (l0 : List S25) : Option (List Int) := if l0.length ≤ 40 then some (impl_byDep.l0 l0) else none
def impl_chains.l3 (turn : Int) (a b : S25) : Bool := decide (a.f1 = b.f0) && decide (wrap64 (a.f3 + turn) ≤ b.f2)
def impl_chains.l2 (us : List (List Int)) (u : Nat) : Int := rd (us.getD u []) (((us.getD u []).length - 1 : Nat) : Int)
def impl_chains.l1 (l : List S25) (turn t : Int) (us : List (List Int)) : Nat → Nat → Int → Int
  | 0, _, best => best
  | k + 1, u, best => if impl_chains.l3 turn (rd_T25 l (impl_chains.l2 us u)) (rd_T25 l t) = true then (if best < 0 then impl_chains.l1 l turn t us k (u + 1) u else if (rd_T25 l (impl_chains.l2 us u)).f3 < (rd_T25 l (impl_chains.l2 us best.toNat)).f3 then impl_chains.l1 l turn t us k (u + 1) u else impl_chains.l1 l turn t us k (u + 1) best) else impl_chains.l1 l turn t us k (u + 1) best
def impl_chains.l0 (l : List S25) (turn : Int) : List Int → List (List Int) → List (List Int)
  | [], us => us
  | t :: ts, us => if impl_chains.l1 l turn t us us.length 0 (-1) < 0 then impl_chains.l0 l turn ts (us ++ [[t]]) else impl_chains.l0 l turn ts (us.set (impl_chains.l1 l turn t us us.length 0 (-1)).toNat (us.getD (impl_chains.l1 l turn t us us.length 0 (-1)).toNat [] ++ [t]))
def impl_chains.f (k : Nat) (l0 : List S25) (a1 : Int) : Option (List (List Int)) := if l0.length ≤ 40 then some (impl_chains.l0 l0 a1 (impl_byDep.l0 l0) []) else none
mutual
def impl_Chains.j0 : Nat → List (S25) → Int → Bool → Option (List Int)
  | 0, _, _, _ => none
  | k + 1, x0, x1, x17 => if x17 = true then (some ([] : List Int)) else (if 0 ≤ (x0.length : Int) then (if ((x0.length : Int) : Int).toNat ≤ 35184372088832 then ((impl_chains.f k x0 x1).bind fun t137 => (impl_Chains.l0 k (List.replicate ((x0.length : Int) : Int).toNat 0) t137 (t137.length : Int) 0)) else (none)) else (none))
def impl_Chains.l0 : Nat → List Int → List (List Int) → Int → Int → Option (List Int)
  | 0, _, _, _, _ => none
  | k + 1, x5, x23, x24, x25 => if x25 < x24 then (if 0 ≤ x25 then (if x25 < (x23.length : Int) then (impl_Chains.l1 k x5 x25 x23 x24 x25 (rd_L3 x23 x25) ((rd_L3 x23 x25).length : Int) 0) else (none)) else (none)) else (some x5)
def impl_Chains.l1 : Nat → List Int → Int → List (List Int) → Int → Int → List Int → Int → Int → Option (List Int)
  | 0, _, _, _, _, _, _, _, _ => none
  | k + 1, x5, x6, x23, x24, x25, x30, x31, x32 => if x32 < x31 then (if 0 ≤ x32 then (if x32 < (x30.length : Int) then (if 0 ≤ (rd x30 x32) then (if (rd x30 x32) < (x5.length : Int) then (impl_Chains.l1 k (x5.set ((rd x30 x32) : Int).toNat x6) x6 x23 x24 x25 x30 x31 (wrap64 (x32 + 1))) else (none)) else (none)) else (none)) else (none)) else (impl_Chains.l0 k x5 x23 x24 (wrap64 (x25 + 1)))
end
def impl_Chains.f (k : Nat) (l0 : List (S25)) (a1 : Int) : Option (List Int) := (impl_TasksOk.f k l0).bind fun t132 => (if t132 = true then ((impl_turnOk.f a1).bind fun t133 => (impl_Chains.j0 k l0 a1 (!t133))) else (impl_Chains.j0 k l0 a1 true))
def spec_l01In.f (a0 : Int) (a1 : Int) (a2 : Int) : Option (Bool) := if a1 ≤ a0 then (some (decide (a0 ≤ a2))) else (some false)
def spec_l16Task.f (a0_0 : Int) (a0_1 : Int) (a0_2 : Int) (a0_3 : Int) (a0_4 : Int) : Option (Bool) := (spec_l01In.f a0_0 0 29).bind fun t144 => (if t144 = true then ((spec_l01In.f a0_1 0 29).bind fun t145 => (if t145 = true then ((spec_l01In.f a0_3 0 100000).bind fun t146 => (if t146 = true then ((spec_l01In.f a0_2 0 (wrap64 (a0_3 - 1))).bind fun t147 => (if t147 = true then ((spec_l01In.f a0_4 0 2000).bind fun t148 => (some t148)) else (some false))) else (some false))) else (some false))) else (some false))
def spec_l16Turn.f (a0 : Int) : Option (Bool) := (spec_l01In.f a0 0 120).bind fun t149 => (some t149)
def spec_Follows.f (a0_0 : Int) (a0_1 : Int) (a0_2 : Int) (a0_3 : Int) (a0_4 : Int) (a1_0 : Int) (a1_1 : Int) (a1_2 : Int) (a1_3 : Int) (a1_4 : Int) (a2 : Int) : Option (Bool) := (spec_l16Task.f a0_0 a0_1 a0_2 a0_3 a0_4).bind fun t152 => (if t152 = true then ((spec_l16Task.f a1_0 a1_1 a1_2 a1_3 a1_4).bind fun t153 => (if t153 = true then ((spec_l16Turn.f a2).bind fun t154 => (if t154 = true then (if a0_1 = a1_0 then (some (decide ((wrap64 (a0_3 + a2)) ≤ a1_2))) else (some false)) else (some false))) else (some false))) else (some false))
def spec_TasksOk.l0 : Nat → List (S25) → Int → Option (Bool)
  | 0, _, _ => none
  | k + 1, x0, x3 => if x3 < (x0.length : Int) then (if 0 ≤ x3 then ((spec_l16Task.f ((rd_T25 x0 x3).f0) ((rd_T25 x0 x3).f1) ((rd_T25 x0 x3).f2) ((rd_T25 x0 x3).f3) ((rd_T25 x0 x3).f4)).bind fun t156 => (if t156 = true then (spec_TasksOk.l0 k x0 (wrap64 (x3 + 1))) else (some false))) else (none)) else (some (decide ((x0.length : Int) ≤ 40)))
def spec_TasksOk.f (k : Nat) (l0 : List (S25)) : Option (Bool) := spec_TasksOk.l0 k l0 0
def spec_l01Has.l0 : Nat → List Int → Int → Int → Option (Bool)
  | 0, _, _, _ => none
  | k + 1, x0, x1, x5 => if x5 < (x0.length : Int) then (if 0 ≤ x5 then (if (rd x0 x5) = x1 then (some true) else (spec_l01Has.l0 k x0 x1 (wrap64 (x5 + 1)))) else (none)) else (some false)
def spec_l01Has.f (k : Nat) (l0 : List Int) (a1 : Int) : Option (Bool) := spec_l01Has.l0 k l0 a1 0
mutual
def spec_l16Order.l0 : Nat → List (S25) → List Int → Option (List Int)
  | 0, _, _ => none
  | k + 1, x0, x3 => if (x3.length : Int) < (x0.length : Int) then (spec_l16Order.l1 k x0 x3 (-1) 0) else (some x3)
def spec_l16Order.l1 : Nat → List (S25) → List Int → Int → Int → Option (List Int)
  | 0, _, _, _, _ => none
  | k + 1, x0, x3, x4, x5 => if x5 < (x0.length : Int) then ((spec_l01Has.f k x3 x5).bind fun t161 => (if t161 = true then (spec_l16Order.l1 k x0 x3 x4 (wrap64 (x5 + 1))) else (if x4 < 0 then (spec_l16Order.l1 k x0 x3 x5 (wrap64 (x5 + 1))) else (if 0 ≤ x5 then (if 0 ≤ x4 then (if x4 < (x0.length : Int) then (if ((rd_T25 x0 x5).f2) < ((rd_T25 x0 x4).f2) then (spec_l16Order.l1 k x0 x3 x5 (wrap64 (x5 + 1))) else (spec_l16Order.l1 k x0 x3 x4 (wrap64 (x5 + 1)))) else (none)) else (none)) else (none))))) else (if x3.length < 17592186044416 then (spec_l16Order.l0 k x0 (x3 ++ [x4])) else (none))
end
def spec_l16Order.f (k : Nat) (l0 : List (S25)) : Option (List Int) := spec_l16Order.l0 k l0 (([] : List Int))
mutual
def spec_Chains.j0 : Nat → List (S25) → Int → Bool → Option (List Int)
  | 0, _, _, _ => none
  | k + 1, x0, x1, x20 => if x20 = true then (some ([] : List Int)) else (spec_Chains.l0 k x0 x1 (([] : List Int)) 0)
def spec_Chains.l0 : Nat → List (S25) → Int → List Int → Int → Option (List Int)
  | 0, _, _, _, _ => none
  | k + 1, x0, x1, x5, x6 => if x6 < (x0.length : Int) then (if x5.length < 17592186044416 then (spec_Chains.l0 k x0 x1 (x5 ++ [(-1)]) (wrap64 (x6 + 1))) else (none)) else ((spec_l16Order.f k x0).bind fun t175 => (spec_Chains.l1 k x0 x1 x5 t175 (([] : List Int)) 0))
def spec_Chains.l1 : Nat → List (S25) → Int → List Int → List Int → List Int → Int → Option (List Int)
  | 0, _, _, _, _, _, _ => none
  | k + 1, x0, x1, x5, x7, x8, x9 => if x9 < (x7.length : Int) then (if 0 ≤ x9 then (spec_Chains.l2 k x0 x1 x5 x7 x8 x9 (rd x7 x9) (-1) 0) else (none)) else (some x5)
def spec_Chains.l2 : Nat → List (S25) → Int → List Int → List Int → List Int → Int → Int → Int → Int → Option (List Int)
  | 0, _, _, _, _, _, _, _, _, _ => none
  | k + 1, x0, x1, x5, x7, x8, x9, x10, x11, x12 => if x12 < (x8.length : Int) then (if 0 ≤ x12 then (if 0 ≤ (rd x8 x12) then (if (rd x8 x12) < (x0.length : Int) then (if 0 ≤ x10 then (if x10 < (x0.length : Int) then ((spec_Follows.f ((rd_T25 x0 (rd x8 x12)).f0) ((rd_T25 x0 (rd x8 x12)).f1) ((rd_T25 x0 (rd x8 x12)).f2) ((rd_T25 x0 (rd x8 x12)).f3) ((rd_T25 x0 (rd x8 x12)).f4) ((rd_T25 x0 x10).f0) ((rd_T25 x0 x10).f1) ((rd_T25 x0 x10).f2) ((rd_T25 x0 x10).f3) ((rd_T25 x0 x10).f4) x1).bind fun t185 => (if t185 = true then (if x11 < 0 then (spec_Chains.l2 k x0 x1 x5 x7 x8 x9 x10 x12 (wrap64 (x12 + 1))) else (if 0 ≤ x11 then (if x11 < (x8.length : Int) then (if 0 ≤ (rd x8 x11) then (if (rd x8 x11) < (x0.length : Int) then (if ((rd_T25 x0 (rd x8 x12)).f3) < ((rd_T25 x0 (rd x8 x11)).f3) then (spec_Chains.l2 k x0 x1 x5 x7 x8 x9 x10 x12 (wrap64 (x12 + 1))) else (spec_Chains.l2 k x0 x1 x5 x7 x8 x9 x10 x11 (wrap64 (x12 + 1)))) else (none)) else (none)) else (none)) else (none))) else (spec_Chains.l2 k x0 x1 x5 x7 x8 x9 x10 x11 (wrap64 (x12 + 1))))) else (none)) else (none)) else (none)) else (none)) else (none)) else (if x11 < 0 then (if x8.length < 17592186044416 then ((some (x8 ++ [x10] : List Int)).bind fun y190 => (if 0 ≤ (x8.length : Int) then (if (x8.length : Int) < (y190.length : Int) then (if 0 ≤ x10 then (if x10 < (x5.length : Int) then (spec_Chains.l1 k x0 x1 (x5.set (x10 : Int).toNat (x8.length : Int)) x7 (y190.set ((x8.length : Int) : Int).toNat x10) (wrap64 (x9 + 1))) else (none)) else (none)) else (none)) else (none))) else (none)) else (if 0 ≤ x11 then (if x11 < (x8.length : Int) then (if 0 ≤ x10 then (if x10 < (x5.length : Int) then (spec_Chains.l1 k x0 x1 (x5.set (x10 : Int).toNat x11) x7 (x8.set (x11 : Int).toNat x10) (wrap64 (x9 + 1))) else (none)) else (none)) else (none)) else (none)))
end
def spec_Chains.f (k : Nat) (l0 : List (S25)) (a1 : Int) : Option (List Int) := (spec_TasksOk.f k l0).bind fun t167 => (if t167 = true then ((spec_l16Turn.f a1).bind fun t168 => (spec_Chains.j0 k l0 a1 (!t168))) else (spec_Chains.j0 k l0 a1 true))
def laws_eqIntS.l0 : Nat → List Int → List Int → Int → Option (Bool)
  | 0, _, _, _ => none
  | k + 1, x0, x1, x5 => if x5 < (x0.length : Int) then (if 0 ≤ x5 then (if x5 < (x1.length : Int) then (if (rd x0 x5) = (rd x1 x5) then (laws_eqIntS.l0 k x0 x1 (wrap64 (x5 + 1))) else (some false)) else (none)) else (none)) else (some true)
def laws_eqIntS.f (k : Nat) (l0 : List Int) (l1 : List Int) : Option (Bool) := if (l0.length : Int) = (l1.length : Int) then (laws_eqIntS.l0 k l0 l1 0) else (some false)
def laws_markTaskS.l0 : Nat → List (S25) → Int → Int → Option (Int × (List (S25)))
  | 0, _, _, _ => none
  | k + 1, x0, x1, x5 => if x5 < (x0.length : Int) then (if 0 ≤ x5 then ((some (x0.set (x5 : Int).toNat (⟨x1, (rd_T25 x0 x5).f1, (rd_T25 x0 x5).f2, (rd_T25 x0 x5).f3, (rd_T25 x0 x5).f4⟩ : S25) : List (S25))).bind fun y199 => ((some (y199.set (x5 : Int).toNat (⟨(rd_T25 y199 x5).f0, wrap64 (x1 + 1), (rd_T25 y199 x5).f2, (rd_T25 y199 x5).f3, (rd_T25 y199 x5).f4⟩ : S25) : List (S25))).bind fun y200 => ((some (y200.set (x5 : Int).toNat (⟨(rd_T25 y200 x5).f0, (rd_T25 y200 x5).f1, wrap64 ((wrap64 (x1 + 1)) + 1), (rd_T25 y200 x5).f3, (rd_T25 y200 x5).f4⟩ : S25) : List (S25))).bind fun y201 => ((some (y201.set (x5 : Int).toNat (⟨(rd_T25 y201 x5).f0, (rd_T25 y201 x5).f1, (rd_T25 y201 x5).f2, wrap64 ((wrap64 ((wrap64 (x1 + 1)) + 1)) + 1), (rd_T25 y201 x5).f4⟩ : S25) : List (S25))).bind fun y202 => (laws_markTaskS.l0 k (y202.set (x5 : Int).toNat (⟨(rd_T25 y202 x5).f0, (rd_T25 y202 x5).f1, (rd_T25 y202 x5).f2, (rd_T25 y202 x5).f3, wrap64 ((wrap64 ((wrap64 ((wrap64 (x1 + 1)) + 1)) + 1)) + 1)⟩ : S25)) (wrap64 ((wrap64 ((wrap64 ((wrap64 ((wrap64 (x1 + 1)) + 1)) + 1)) + 1)) + 1)) (wrap64 (x5 + 1))))))) else (none)) else (some (x1, x0))
def laws_markTaskS.f (k : Nat) (l0 : List (S25)) (a1 : Int) : Option (Int × (List (S25))) := laws_markTaskS.l0 k l0 a1 0
def laws_markIntS.l0 : Nat → List Int → Int → Int → Option (Int × List Int)
  | 0, _, _, _ => none
  | k + 1, x0, x1, x5 => if x5 < (x0.length : Int) then (if 0 ≤ x5 then (laws_markIntS.l0 k (x0.set (x5 : Int).toNat x1) (wrap64 (x1 + 1)) (wrap64 (x5 + 1))) else (none)) else (some (x1, x0))
def laws_markIntS.f (k : Nat) (l0 : List Int) (a1 : Int) : Option (Int × List Int) := laws_markIntS.l0 k l0 a1 0
def laws_heldIntS.l0 : Nat → List Int → Int → Int → Option (Int)
  | 0, _, _, _ => none
  | k + 1, x0, x1, x5 => if x5 < (x0.length : Int) then (if 0 ≤ x5 then (if (rd x0 x5) = x1 then (laws_heldIntS.l0 k x0 (wrap64 (x1 + 1)) (wrap64 (x5 + 1))) else (some (-1))) else (none)) else (some x1)
def laws_heldIntS.f (k : Nat) (l0 : List Int) (a1 : Int) : Option (Int) := laws_heldIntS.l0 k l0 a1 0
def laws_FnExactChains.j0 : Nat → List (S23) → Int → List Int → List Int → Bool → Option (Bool)
  | 0, _, _, _, _, _ => none
  | k + 1, x0, x1, x6, x8, x46 => if x46 = true then (some false) else ((laws_markIntS.f k x8 1).bind fun bt227 => ((laws_heldIntS.f k bt227.2 1).bind fun t229 => (if t229 < 0 then (some false) else (if t229 = bt227.1 then ((laws_toTaskS.f k x0).bind fun t230 => ((impl_Chains.f k t230 x1).bind fun t233 => ((laws_eqIntS.f k t233 x6).bind fun t236 => (if t236 = true then ((laws_heldIntS.f k bt227.2 1).bind fun t237 => (if t237 < 0 then (some false) else (if t237 = bt227.1 then (some true) else (some false)))) else (some false))))) else (some false)))))
def laws_FnExactChains.f (k : Nat) (l0 : List (S23)) (a1 : Int) : Option (Bool) := (laws_szTaskS.f l0 1048576).bind fun t206 => (if t206 < 0 then (some true) else ((laws_toTaskS.f k l0).bind fun t207 => ((spec_Chains.f k t207 a1).bind fun t210 => ((laws_toTaskS.f k l0).bind fun t213 => ((impl_Chains.f k t213 a1).bind fun t216 => ((laws_eqIntS.f k t216 t210).bind fun t219 => (if t219 = true then ((laws_toTaskS.f k l0).bind fun t220 => ((laws_eqTaskS.f k t213 t220).bind fun t223 => (if t223 = true then ((laws_markTaskS.f k t213 1).bind fun bt224 => (if bt224.1 < 0 then (laws_FnExactChains.j0 k l0 a1 t210 t216 true) else ((laws_eqIntS.f k t216 t210).bind fun t226 => (laws_FnExactChains.j0 k l0 a1 t210 t216 (!t226))))) else (some false)))) else (some false))))))))
def impl_Fleet.l3 (turn : Int) (a b : S25) : Bool := decide (a.f1 = b.f0) && decide (wrap64 (a.f3 + turn) ≤ b.f2)
def impl_Fleet.l0 (l : List S25) (turn : Int) : Nat → Int → List Int → List Bool → Int → Option (Bool × List Int × List Bool)
  | 0, _, _, _, _ => none
  | k + 1, a, bf, sn, b => if b < (l.length : Int) then (if rdOf false sn b = true then impl_Fleet.l0 l turn k a bf sn (b + 1) else (if impl_Fleet.l3 turn (rd_T25 l a) (rd_T25 l b) = false then impl_Fleet.l0 l turn k a bf sn (b + 1) else (if rd bf b < 0 then some (true, bf.set b.toNat a, sn.set b.toNat true) else ((impl_Fleet.l0 l turn k (rd bf b) bf (sn.set b.toNat true) 0).bind fun r => if r.1 = true then some (true, r.2.1.set b.toNat a, r.2.2) else impl_Fleet.l0 l turn k a r.2.1 r.2.2 (b + 1))))) else some (false, bf, sn)
def impl_Fleet.l1 (l : List S25) (turn : Int) (k : Nat) : List Nat → List Int → Int → Option Int
  | [], _, u => some u
  | a :: q, bf, u => (impl_Fleet.l0 l turn k (a : Int) bf (List.replicate l.length false) 0).bind fun r => impl_Fleet.l1 l turn k q r.2.1 (if r.1 = true then u - 1 else u)
def impl_Fleet.f (k : Nat) (l0 : List S25) (a1 : Int) : Option Int := (impl_TasksOk.f k l0).bind fun t => if t = true then ((impl_turnOk.f a1).bind fun t2 => if t2 = true then impl_Fleet.l1 l0 a1 k (List.range l0.length) (List.replicate l0.length (-1)) (l0.length : Int) else some (-1)) else some (-1)
mutual
def spec_l16Match.l0 : Nat → List (S25) → Int → Int → List Int → List Bool → Int → Option (Bool × List Int × List Bool)
  | 0, _, _, _, _, _, _ => none
  | k + 1, x0, x1, x2, x3, x4, x11 => if x11 < (x0.length : Int) then (if 0 ≤ x11 then (if x11 < (x4.length : Int) then (if rdOf false x4 x11 = true then (spec_l16Match.j1 k x0 x1 x2 x3 x4 x11 true) else (if 0 ≤ x2 then (if x2 < (x0.length : Int) then ((spec_Follows.f ((rd_T25 x0 x2).f0) ((rd_T25 x0 x2).f1) ((rd_T25 x0 x2).f2) ((rd_T25 x0 x2).f3) ((rd_T25 x0 x2).f4) ((rd_T25 x0 x11).f0) ((rd_T25 x0 x11).f1) ((rd_T25 x0 x11).f2) ((rd_T25 x0 x11).f3) ((rd_T25 x0 x11).f4) x1).bind fun t247 => (spec_l16Match.j1 k x0 x1 x2 x3 x4 x11 (!t247))) else (none)) else (none))) else (none)) else (none)) else (some (false, x3, x4))
def spec_l16Match.j1 : Nat → List (S25) → Int → Int → List Int → List Bool → Int → Bool → Option (Bool × List Int × List Bool)
  | 0, _, _, _, _, _, _, _ => none
  | k + 1, x0, x1, x2, x3, x4, x11, x34 => if x34 = true then (spec_l16Match.l0 k x0 x1 x2 x3 x4 (wrap64 (x11 + 1))) else (if 0 ≤ x11 then (if x11 < (x4.length : Int) then ((some (x4.set (x11 : Int).toNat true : List Bool)).bind fun y248 => (if x11 < (x3.length : Int) then (if (rd x3 x11) < 0 then (some (true, (x3.set (x11 : Int).toNat x2), y248)) else ((spec_l16Match.f k x0 x1 (rd x3 x11) x3 y248).bind fun bt252 => (if bt252.1 = true then (some (true, (bt252.2.1.set (x11 : Int).toNat x2), bt252.2.2)) else (spec_l16Match.l0 k x0 x1 x2 bt252.2.1 bt252.2.2 (wrap64 (x11 + 1)))))) else (none))) else (none)) else (none))
def spec_l16Match.f : Nat → List (S25) → Int → Int → List Int → List Bool → Option (Bool × List Int × List Bool)
  | 0, _, _, _, _, _ => none
  | k + 1, l0, a1, a2, l3, l4 => spec_l16Match.l0 k l0 a1 a2 l3 l4 0
end
mutual
def spec_Fleet.j0 : Nat → List (S25) → Int → Bool → Option (Int)
  | 0, _, _, _ => none
  | k + 1, x0, x1, x16 => if x16 = true then (some (-1)) else (spec_Fleet.l0 k x0 x1 (([] : List Int)) 0)
def spec_Fleet.l0 : Nat → List (S25) → Int → List Int → Int → Option (Int)
  | 0, _, _, _, _ => none
  | k + 1, x0, x1, x5, x6 => if x6 < (x0.length : Int) then (if x5.length < 17592186044416 then (spec_Fleet.l0 k x0 x1 (x5 ++ [(-1)]) (wrap64 (x6 + 1))) else (none)) else (spec_Fleet.l1 k x0 x1 x5 (x0.length : Int) 0)
def spec_Fleet.l1 : Nat → List (S25) → Int → List Int → Int → Int → Option (Int)
  | 0, _, _, _, _, _ => none
  | k + 1, x0, x1, x5, x7, x8 => if x8 < (x0.length : Int) then (if 0 ≤ (x0.length : Int) then (if ((x0.length : Int) : Int).toNat ≤ 281474976710656 then ((spec_l16Match.f k x0 x1 x8 x5 (List.replicate ((x0.length : Int) : Int).toNat false)).bind fun bt267 => (if bt267.1 = true then (spec_Fleet.l1 k x0 x1 bt267.2.1 (wrap64 (x7 - 1)) (wrap64 (x8 + 1))) else (spec_Fleet.l1 k x0 x1 bt267.2.1 x7 (wrap64 (x8 + 1))))) else (none)) else (none)) else (some x7)
end
def spec_Fleet.f (k : Nat) (l0 : List (S25)) (a1 : Int) : Option (Int) := (spec_TasksOk.f k l0).bind fun t256 => (if t256 = true then ((spec_l16Turn.f a1).bind fun t257 => (spec_Fleet.j0 k l0 a1 (!t257))) else (spec_Fleet.j0 k l0 a1 true))
def laws_FnExactFleet.f (k : Nat) (l0 : List (S23)) (a1 : Int) : Option (Bool) := (laws_szTaskS.f l0 1048576).bind fun t270 => (if t270 < 0 then (some true) else ((laws_toTaskS.f k l0).bind fun t271 => ((spec_Fleet.f k t271 a1).bind fun t274 => ((laws_toTaskS.f k l0).bind fun t275 => ((impl_Fleet.f k t275 a1).bind fun t278 => (if t278 = t274 then ((laws_toTaskS.f k l0).bind fun t279 => ((laws_eqTaskS.f k t275 t279).bind fun t282 => (if t282 = true then (some true) else (some false)))) else (some false)))))))
def impl_Follows.f (a0_0 : Int) (a0_1 : Int) (a0_2 : Int) (a0_3 : Int) (a0_4 : Int) (a1_0 : Int) (a1_1 : Int) (a1_2 : Int) (a1_3 : Int) (a1_4 : Int) (a2 : Int) : Option (Bool) := (impl_taskOk.f a0_0 a0_1 a0_2 a0_3 a0_4).bind fun t285 => (if t285 = true then ((impl_taskOk.f a1_0 a1_1 a1_2 a1_3 a1_4).bind fun t286 => (if t286 = true then ((impl_turnOk.f a2).bind fun t287 => (if t287 = true then ((impl_follows.f a0_0 a0_1 a0_2 a0_3 a0_4 a1_0 a1_1 a1_2 a1_3 a1_4 a2).bind fun t288 => (some t288)) else (some false))) else (some false))) else (some false))
def laws_big.f (l0 : List Int) : Option (Bool) := some (decide ((l0.length : Int) > 1048576))
def spec_l01New.l0 : Nat → List Int → Int → Int → Option (List Int × Int × Int)
  | 0, _, _, _ => none
  | k + 1, x0, x3, x4 => if x4 < (x0.length : Int) then (if x4 < 4000 then (if 0 ≤ x4 then (spec_l01New.l0 k x0 (Go.bits .and .i64 (wrap64 ((wrap64 ((wrap64 (x3 * 137)) + (wrap64 (rd x0 x4)))) + 11)) 1073741823) (wrap64 (x4 + 1))) else (none)) else (some (x0, 0, x3))) else (some (x0, 0, x3))
def spec_l01New.f (k : Nat) (l0 : List Int) : Option (List Int × Int × Int) := spec_l01New.l0 k l0 (wrap64 (75075 + (l0.length : Int))) 0
def spec_l01Byte.f (s0_0 : List Int) (s0_1 : Int) (s0_2 : Int) : Option (Int × Int × Int) := if s0_1 < (s0_0.length : Int) then (if 0 ≤ s0_1 then (some (Go.bits .and .i64 (wrap64 ((Go.bits .and .i64 (Go.bits .xor .i64 ((wrap64 ((wrap64 (s0_2 * 6364136223846793005)) + 1442695040888963407)) / 8589934592) ((wrap64 ((wrap64 (s0_2 * 6364136223846793005)) + 1442695040888963407)) / 35184372088832)) 255) + (wrap64 (rd s0_0 s0_1)))) 255, wrap64 (s0_1 + 1), wrap64 ((wrap64 (s0_2 * 6364136223846793005)) + 1442695040888963407))) else (none)) else (some (Go.bits .and .i64 (Go.bits .xor .i64 ((wrap64 ((wrap64 (s0_2 * 6364136223846793005)) + 1442695040888963407)) / 8589934592) ((wrap64 ((wrap64 (s0_2 * 6364136223846793005)) + 1442695040888963407)) / 35184372088832)) 255, s0_1, wrap64 ((wrap64 (s0_2 * 6364136223846793005)) + 1442695040888963407)))
def spec_l01Below.f (s0_0 : List Int) (s0_1 : Int) (s0_2 : Int) (a1 : Int) : Option (Int × Int × Int) := if a1 ≤ 0 then (some (0, s0_1, s0_2)) else (if a1 ≤ 256 then ((spec_l01Byte.f s0_0 s0_1 s0_2).bind fun bt293 => (if a1 = 0 then (none) else (some (Int.tmod bt293.1 a1, bt293.2.1, bt293.2.2)))) else ((spec_l01Byte.f s0_0 s0_1 s0_2).bind fun bt296 => ((spec_l01Byte.f s0_0 bt296.2.1 bt296.2.2).bind fun bt299 => ((spec_l01Byte.f s0_0 bt299.2.1 bt299.2.2).bind fun bt302 => (if a1 = 0 then (none) else (some (Int.tmod (wrap64 ((wrap64 ((wrap64 (bt296.1 * 65536)) + (wrap64 (bt299.1 * 256)))) + bt302.1)) a1, bt302.2.1, bt302.2.2)))))))
def spec_l01Size.f (l0 : List Int) (a1 : Int) : Option (Int) := if (wrap64 (2 + (wrap64 ((l0.length : Int) / 16)))) > a1 then (some a1) else (some (wrap64 (2 + (wrap64 ((l0.length : Int) / 16)))))
def spec_l01Once.f (s0_0 : List Int) (s0_1 : Int) (s0_2 : Int) (a1 : Int) : Option (Bool × Int × Int) := (spec_l01Below.f s0_0 s0_1 s0_2 a1).bind fun bt305 => (some ((bt305.1 == 0), bt305.2.1, bt305.2.2))
def spec_l16DrawRight.l0 : Nat → List (S25) → Int → List Int → Int → Int → Option ((List (S25)) × Int × Int)
  | 0, _, _, _, _, _ => none
  | k + 1, x7, x8, x1000, x1001, x1002 => if x8 > 0 then ((spec_l01Below.f x1000 x1001 x1002 300).bind fun bt315 => ((spec_l01Below.f x1000 bt315.2.1 bt315.2.2 3).bind fun bt318 => ((spec_l01Below.f x1000 bt318.2.1 bt318.2.2 3).bind fun bt321 => ((spec_l01Below.f x1000 bt321.2.1 bt321.2.2 50).bind fun bt324 => ((spec_l01Below.f x1000 bt324.2.1 bt324.2.2 90).bind fun bt327 => (if (x7.length : Int) > 0 then ((spec_l01Once.f x1000 bt327.2.1 bt327.2.2 3).bind fun bt331 => (if bt331.1 = true then (if x7.length < 3518437208883 then (spec_l16DrawRight.l0 k (x7 ++ [(⟨bt318.1, bt321.1, bt315.1, wrap64 ((wrap64 (bt315.1 + 1)) + bt324.1), bt327.1⟩ : S25)]) (wrap64 (x8 - 1)) x1000 bt331.2.1 bt331.2.2) else (none)) else ((spec_l01Below.f x1000 bt331.2.1 bt331.2.2 (x7.length : Int)).bind fun bt337 => (if 0 ≤ bt337.1 then (if bt337.1 < (x7.length : Int) then (if x7.length < 3518437208883 then (spec_l16DrawRight.l0 k (x7 ++ [(⟨(rd_T25 x7 bt337.1).f1, bt321.1, bt315.1, wrap64 ((wrap64 (bt315.1 + 1)) + bt324.1), bt327.1⟩ : S25)]) (wrap64 (x8 - 1)) x1000 bt337.2.1 bt337.2.2) else (none)) else (none)) else (none))))) else (if x7.length < 3518437208883 then (spec_l16DrawRight.l0 k (x7 ++ [(⟨bt318.1, bt321.1, bt315.1, wrap64 ((wrap64 (bt315.1 + 1)) + bt324.1), bt327.1⟩ : S25)]) (wrap64 (x8 - 1)) x1000 bt327.2.1 bt327.2.2) else (none)))))))) else (some (x7, x1001, x1002))
def spec_l16DrawRight.f (k : Nat) (s0_0 : List Int) (s0_1 : Int) (s0_2 : Int) (l1 : List Int) (a2 : Int) : Option ((List (S25)) × Int × Int) := (spec_l01Size.f l1 a2).bind fun t311 => ((spec_l01Below.f s0_0 s0_1 s0_2 (wrap64 (2 + t311))).bind fun bt312 => (spec_l16DrawRight.l0 k (([] : List (S25))) bt312.1 s0_0 bt312.2.1 bt312.2.2))
def spec_DrawRightTasks.f (k : Nat) (l0 : List Int) : Option ((List (S25)) × Int) := (spec_l01New.f k l0).bind fun bt347 => ((spec_l16DrawRight.f k bt347.1 bt347.2.1 bt347.2.2 l0 14).bind fun bt351 => ((spec_l01Below.f bt347.1 bt351.2.1 bt351.2.2 16).bind fun bt356 => (some (bt351.1, bt356.1))))
def laws_at.f (l0 : List Int) (a1 : Int) : Option (Int) := if a1 < (l0.length : Int) then (if 0 ≤ a1 then (some (wrap64 (rd l0 a1))) else (none)) else (some (Int.tmod (wrap64 ((wrap64 (a1 * 11)) + (wrap64 ((l0.length : Int) * 3)))) 256))
mutual
def laws_FnFleet.j0 : Nat → List (S25) → Int → Int → Int → Bool → Option (Bool)
  | 0, _, _, _, _, _ => none
  | k + 1, x3, x4, x5, x6, x49 => if x49 = true then (some false) else (if (x3.length : Int) > 0 then (if 1 ≤ (x3.length : Int) then ((impl_Fleet.f k (x3.drop 1) x4).bind fun t372 => (if t372 > (wrap64 (x6 + 1)) then (some false) else (if t372 < (wrap64 (x6 - 1)) then (some false) else (laws_FnFleet.j1 k x3 x4 x5)))) else (none)) else (laws_FnFleet.j1 k x3 x4 x5))
def laws_FnFleet.j1 : Nat → List (S25) → Int → Int → Option (Bool)
  | 0, _, _, _ => none
  | k + 1, x3, x4, x5 => laws_FnFleet.l0 k x3 x4 x5 0
def laws_FnFleet.l0 : Nat → List (S25) → Int → Int → Int → Option (Bool)
  | 0, _, _, _, _ => none
  | k + 1, x3, x4, x5, x9 => if x9 < (x3.length : Int) then (laws_FnFleet.l1 k x3 x4 x5 x9 0) else (some true)
def laws_FnFleet.l1 : Nat → List (S25) → Int → Int → Int → Int → Option (Bool)
  | 0, _, _, _, _, _ => none
  | k + 1, x3, x4, x5, x9, x10 => if x10 < (x3.length : Int) then (if 0 ≤ x9 then (if x9 < (x3.length : Int) then (if 0 ≤ x10 then ((impl_Follows.f ((rd_T25 x3 x9).f0) ((rd_T25 x3 x9).f1) ((rd_T25 x3 x9).f2) ((rd_T25 x3 x9).f3) ((rd_T25 x3 x9).f4) ((rd_T25 x3 x10).f0) ((rd_T25 x3 x10).f1) ((rd_T25 x3 x10).f2) ((rd_T25 x3 x10).f3) ((rd_T25 x3 x10).f4) x5).bind fun t375 => (if t375 = true then ((impl_Follows.f ((rd_T25 x3 x9).f0) ((rd_T25 x3 x9).f1) ((rd_T25 x3 x9).f2) ((rd_T25 x3 x9).f3) ((rd_T25 x3 x9).f4) ((rd_T25 x3 x10).f0) ((rd_T25 x3 x10).f1) ((rd_T25 x3 x10).f2) ((rd_T25 x3 x10).f3) ((rd_T25 x3 x10).f4) x4).bind fun t378 => (if t378 = true then (laws_FnFleet.l1 k x3 x4 x5 x9 (wrap64 (x10 + 1))) else (some false))) else (laws_FnFleet.l1 k x3 x4 x5 x9 (wrap64 (x10 + 1))))) else (none)) else (none)) else (none)) else (laws_FnFleet.l0 k x3 x4 x5 (wrap64 (x9 + 1)))
end
def laws_FnFleet.f (k : Nat) (l0 : List Int) : Option (Bool) := (laws_big.f l0).bind fun t360 => (if t360 = true then (some true) else ((spec_DrawRightTasks.f k l0).bind fun bt361 => ((laws_at.f l0 3).bind fun t365 => ((impl_Fleet.f k bt361.1 bt361.2).bind fun t366 => ((impl_Fleet.f k bt361.1 (wrap64 (bt361.2 + (Int.tmod t365 32)))).bind fun t367 => (if t366 < 0 then (laws_FnFleet.j0 k bt361.1 bt361.2 (wrap64 (bt361.2 + (Int.tmod t365 32))) t366 true) else (if t367 < t366 then (laws_FnFleet.j0 k bt361.1 bt361.2 (wrap64 (bt361.2 + (Int.tmod t365 32))) t366 true) else (if t367 > (bt361.1.length : Int) then (laws_FnFleet.j0 k bt361.1 bt361.2 (wrap64 (bt361.2 + (Int.tmod t365 32))) t366 true) else (laws_FnFleet.j0 k bt361.1 bt361.2 (wrap64 (bt361.2 + (Int.tmod t365 32))) t366 ((t366 == 0) != ((bt361.1.length : Int) == 0)))))))))))
def laws_FnFleet.Pure : Prop := ∀ (l0 : List Int), l0.length ≤ maxLen → l0.length * 1 ≤ 140737488351232 → (∀ x ∈ l0, (Lit.int .u8 x).wf = true) → ∃ k, laws_FnFleet.f k l0 = some true
end Go.Proofs.Ytoalolbifakpiaa.P

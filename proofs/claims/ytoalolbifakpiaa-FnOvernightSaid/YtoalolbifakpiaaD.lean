/- The functions of the program as plain Lean functions, without memory and machine; written by a program of the session. -/
import Derived.Test.YtoalolbifakpiaaProg
import Derived.Test.YtoalolbifakpiaaV
namespace Go.Proofs.Ytoalolbifakpiaa.P
open Go.RowKit Go.Proofs.YtoalolbifakpiaaW.PrintWords Go.Proofs.YtoalolbifakpiaaW.PrintLast Go.Proofs.YtoalolbifakpiaaW.PrintMore
set_option linter.unusedVariables false

structure S25 where
  f0 : Int
  f1 : Int
  f2 : Int
  f3 : Int
  f4 : Int
def z25 : S25 := ⟨(0 : Int), (0 : Int), (0 : Int), (0 : Int), (0 : Int)⟩
def rd_T25 (xs : List S25) (i : Int) : S25 := xs.getD i.toNat z25
def rd_L3 (xs : List (List Int)) (i : Int) : (List Int) := xs.getD i.toNat ([] : List Int)
def laws_big.f (l0 : List Int) : Option (Bool) := some (decide ((l0.length : Int) > 1048576))
def spec_l01New.l0 : Nat → List Int → Int → Int → Option (List Int × Int × Int)
  | 0, _, _, _ => none
  | k + 1, x0, x3, x4 => if x4 < (x0.length : Int) then (if x4 < 4000 then (if 0 ≤ x4 then (spec_l01New.l0 k x0 (Go.bits .and .i64 (wrap64 ((wrap64 ((wrap64 (x3 * 137)) + (wrap64 (rd x0 x4)))) + 11)) 1073741823) (wrap64 (x4 + 1))) else (none)) else (some (x0, 0, x3))) else (some (x0, 0, x3))
def spec_l01New.f (k : Nat) (l0 : List Int) : Option (List Int × Int × Int) := spec_l01New.l0 k l0 (wrap64 (75075 + (l0.length : Int))) 0
def spec_l01Byte.f (s0_0 : List Int) (s0_1 : Int) (s0_2 : Int) : Option (Int × Int × Int) := if s0_1 < (s0_0.length : Int) then (if 0 ≤ s0_1 then (some (Go.bits .and .i64 (wrap64 ((Go.bits .and .i64 (Go.bits .xor .i64 ((wrap64 ((wrap64 (s0_2 * 6364136223846793005)) + 1442695040888963407)) / 8589934592) ((wrap64 ((wrap64 (s0_2 * 6364136223846793005)) + 1442695040888963407)) / 35184372088832)) 255) + (wrap64 (rd s0_0 s0_1)))) 255, wrap64 (s0_1 + 1), wrap64 ((wrap64 (s0_2 * 6364136223846793005)) + 1442695040888963407))) else (none)) else (some (Go.bits .and .i64 (Go.bits .xor .i64 ((wrap64 ((wrap64 (s0_2 * 6364136223846793005)) + 1442695040888963407)) / 8589934592) ((wrap64 ((wrap64 (s0_2 * 6364136223846793005)) + 1442695040888963407)) / 35184372088832)) 255, s0_1, wrap64 ((wrap64 (s0_2 * 6364136223846793005)) + 1442695040888963407)))
def spec_l01Below.f (s0_0 : List Int) (s0_1 : Int) (s0_2 : Int) (a1 : Int) : Option (Int × Int × Int) := if a1 ≤ 0 then (some (0, s0_1, s0_2)) else (if a1 ≤ 256 then ((spec_l01Byte.f s0_0 s0_1 s0_2).bind fun bt105 => (if a1 = 0 then (none) else (some (Int.tmod bt105.1 a1, bt105.2.1, bt105.2.2)))) else ((spec_l01Byte.f s0_0 s0_1 s0_2).bind fun bt108 => ((spec_l01Byte.f s0_0 bt108.2.1 bt108.2.2).bind fun bt111 => ((spec_l01Byte.f s0_0 bt111.2.1 bt111.2.2).bind fun bt114 => (if a1 = 0 then (none) else (some (Int.tmod (wrap64 ((wrap64 ((wrap64 (bt108.1 * 65536)) + (wrap64 (bt111.1 * 256)))) + bt114.1)) a1, bt114.2.1, bt114.2.2)))))))
def spec_l01Size.f (l0 : List Int) (a1 : Int) : Option (Int) := if (wrap64 (2 + (wrap64 ((l0.length : Int) / 16)))) > a1 then (some a1) else (some (wrap64 (2 + (wrap64 ((l0.length : Int) / 16)))))
def spec_l01Once.f (s0_0 : List Int) (s0_1 : Int) (s0_2 : Int) (a1 : Int) : Option (Bool × Int × Int) := (spec_l01Below.f s0_0 s0_1 s0_2 a1).bind fun bt117 => (some ((bt117.1 == 0), bt117.2.1, bt117.2.2))
def spec_l16DrawRight.l0 : Nat → List (S25) → Int → List Int → Int → Int → Option ((List (S25)) × Int × Int)
  | 0, _, _, _, _, _ => none
  | k + 1, x7, x8, x1000, x1001, x1002 => if x8 > 0 then ((spec_l01Below.f x1000 x1001 x1002 300).bind fun bt127 => ((spec_l01Below.f x1000 bt127.2.1 bt127.2.2 3).bind fun bt130 => ((spec_l01Below.f x1000 bt130.2.1 bt130.2.2 3).bind fun bt133 => ((spec_l01Below.f x1000 bt133.2.1 bt133.2.2 50).bind fun bt136 => ((spec_l01Below.f x1000 bt136.2.1 bt136.2.2 90).bind fun bt139 => (if (x7.length : Int) > 0 then ((spec_l01Once.f x1000 bt139.2.1 bt139.2.2 3).bind fun bt143 => (if bt143.1 = true then (if x7.length < 3518437208883 then (spec_l16DrawRight.l0 k (x7 ++ [(⟨bt130.1, bt133.1, bt127.1, wrap64 ((wrap64 (bt127.1 + 1)) + bt136.1), bt139.1⟩ : S25)]) (wrap64 (x8 - 1)) x1000 bt143.2.1 bt143.2.2) else (none)) else ((spec_l01Below.f x1000 bt143.2.1 bt143.2.2 (x7.length : Int)).bind fun bt149 => (if 0 ≤ bt149.1 then (if bt149.1 < (x7.length : Int) then (if x7.length < 3518437208883 then (spec_l16DrawRight.l0 k (x7 ++ [(⟨(rd_T25 x7 bt149.1).f1, bt133.1, bt127.1, wrap64 ((wrap64 (bt127.1 + 1)) + bt136.1), bt139.1⟩ : S25)]) (wrap64 (x8 - 1)) x1000 bt149.2.1 bt149.2.2) else (none)) else (none)) else (none))))) else (if x7.length < 3518437208883 then (spec_l16DrawRight.l0 k (x7 ++ [(⟨bt130.1, bt133.1, bt127.1, wrap64 ((wrap64 (bt127.1 + 1)) + bt136.1), bt139.1⟩ : S25)]) (wrap64 (x8 - 1)) x1000 bt139.2.1 bt139.2.2) else (none)))))))) else (some (x7, x1001, x1002))
def spec_l16DrawRight.f (k : Nat) (s0_0 : List Int) (s0_1 : Int) (s0_2 : Int) (l1 : List Int) (a2 : Int) : Option ((List (S25)) × Int × Int) := (spec_l01Size.f l1 a2).bind fun t123 => ((spec_l01Below.f s0_0 s0_1 s0_2 (wrap64 (2 + t123))).bind fun bt124 => (spec_l16DrawRight.l0 k (([] : List (S25))) bt124.1 s0_0 bt124.2.1 bt124.2.2))
def spec_DrawRightTasks.f (k : Nat) (l0 : List Int) : Option ((List (S25)) × Int) := (spec_l01New.f k l0).bind fun bt159 => ((spec_l16DrawRight.f k bt159.1 bt159.2.1 bt159.2.2 l0 14).bind fun bt163 => ((spec_l01Below.f bt159.1 bt163.2.1 bt163.2.2 16).bind fun bt168 => (some (bt163.1, bt168.1))))
def impl_between.f (a0 : Int) (a1 : Int) (a2 : Int) : Option (Bool) := if a0 ≥ a1 then (some (decide (a0 ≤ a2))) else (some false)
def impl_isMinute.f (a0 : Int) : Option (Bool) := (impl_between.f a0 0 100000).bind fun t171 => (some t171)
def impl_taskOk.f (a0_0 : Int) (a0_1 : Int) (a0_2 : Int) (a0_3 : Int) (a0_4 : Int) : Option (Bool) := (impl_between.f a0_0 0 29).bind fun t173 => (if t173 = true then ((impl_between.f a0_1 0 29).bind fun t174 => (if t174 = true then ((impl_isMinute.f a0_2).bind fun t175 => (if t175 = true then ((impl_isMinute.f a0_3).bind fun t176 => (if t176 = true then (if a0_2 < a0_3 then ((impl_between.f a0_4 0 2000).bind fun t177 => (some t177)) else (some false)) else (some false))) else (some false))) else (some false))) else (some false))
def impl_TasksOk.l0 : Nat → List (S25) → Int → Int → Option (Bool)
  | 0, _, _, _ => none
  | k + 1, x8, x9, x10 => if x10 < x9 then (if 0 ≤ x10 then (if x10 < (x8.length : Int) then ((impl_taskOk.f ((rd_T25 x8 x10).f0) ((rd_T25 x8 x10).f1) ((rd_T25 x8 x10).f2) ((rd_T25 x8 x10).f3) ((rd_T25 x8 x10).f4)).bind fun t180 => (if t180 = true then (impl_TasksOk.l0 k x8 x9 (wrap64 (x10 + 1))) else (some false))) else (none)) else (none)) else (some true)
def impl_TasksOk.f (k : Nat) (l0 : List (S25)) : Option (Bool) := if (l0.length : Int) > 40 then (some false) else (impl_TasksOk.l0 k l0 (l0.length : Int) 0)
def impl_turnOk.f (a0 : Int) : Option (Bool) := (impl_between.f a0 0 120).bind fun t181 => (some t181)
def impl_follows.f (a0_0 : Int) (a0_1 : Int) (a0_2 : Int) (a0_3 : Int) (a0_4 : Int) (a1_0 : Int) (a1_1 : Int) (a1_2 : Int) (a1_3 : Int) (a1_4 : Int) (a2 : Int) : Option (Bool) := if a0_1 = a1_0 then (some (decide ((wrap64 (a0_3 + a2)) ≤ a1_2))) else (some false)
def impl_byDep.l1 (l : List S25) (a b : Nat) : Bool := decide ((rd_T25 l a).f2 < (rd_T25 l b).f2 ∨ ((rd_T25 l a).f2 = (rd_T25 l b).f2 ∧ a ≤ b))
def impl_byDep.l0 (l : List S25) : List Int := ((List.range l.length).mergeSort (impl_byDep.l1 l)).map (fun (i : Nat) => (i : Int))
def impl_byDep.f (k : Nat) (l0 : List S25) : Option (List Int) := if l0.length ≤ 40 then some (impl_byDep.l0 l0) else none
def impl_chains.l3 (turn : Int) (a b : S25) : Bool := decide (a.f1 = b.f0) && decide (wrap64 (a.f3 + turn) ≤ b.f2)
def impl_chains.l2 (us : List (List Int)) (u : Nat) : Int := rd (us.getD u []) (((us.getD u []).length - 1 : Nat) : Int)
def impl_chains.l1 (l : List S25) (turn t : Int) (us : List (List Int)) : Nat → Nat → Int → Int
  | 0, _, best => best
  | k + 1, u, best => if impl_chains.l3 turn (rd_T25 l (impl_chains.l2 us u)) (rd_T25 l t) = true then (if best < 0 then impl_chains.l1 l turn t us k (u + 1) u else if (rd_T25 l (impl_chains.l2 us u)).f3 < (rd_T25 l (impl_chains.l2 us best.toNat)).f3 then impl_chains.l1 l turn t us k (u + 1) u else impl_chains.l1 l turn t us k (u + 1) best) else impl_chains.l1 l turn t us k (u + 1) best
def impl_chains.l0 (l : List S25) (turn : Int) : List Int → List (List Int) → List (List Int)
  | [], us => us
  | t :: ts, us => if impl_chains.l1 l turn t us us.length 0 (-1) < 0 then impl_chains.l0 l turn ts (us ++ [[t]]) else impl_chains.l0 l turn ts (us.set (impl_chains.l1 l turn t us us.length 0 (-1)).toNat (us.getD (impl_chains.l1 l turn t us us.length 0 (-1)).toNat [] ++ [t]))
def impl_chains.f (k : Nat) (l0 : List S25) (a1 : Int) : Option (List (List Int)) := if l0.length ≤ 40 then some (impl_chains.l0 l0 a1 (impl_byDep.l0 l0) []) else none
mutual
def impl_Chains.j0 : Nat → List (S25) → Int → Bool → Option (List Int)
  | 0, _, _, _ => none
  | k + 1, x0, x1, x17 => if x17 = true then (some ([] : List Int)) else (if 0 ≤ (x0.length : Int) then (if ((x0.length : Int) : Int).toNat ≤ 35184372088832 then ((impl_chains.f k x0 x1).bind fun t189 => (impl_Chains.l0 k (List.replicate ((x0.length : Int) : Int).toNat 0) t189 (t189.length : Int) 0)) else (none)) else (none))
def impl_Chains.l0 : Nat → List Int → List (List Int) → Int → Int → Option (List Int)
  | 0, _, _, _, _ => none
  | k + 1, x5, x23, x24, x25 => if x25 < x24 then (if 0 ≤ x25 then (if x25 < (x23.length : Int) then (impl_Chains.l1 k x5 x25 x23 x24 x25 (rd_L3 x23 x25) ((rd_L3 x23 x25).length : Int) 0) else (none)) else (none)) else (some x5)
def impl_Chains.l1 : Nat → List Int → Int → List (List Int) → Int → Int → List Int → Int → Int → Option (List Int)
  | 0, _, _, _, _, _, _, _, _ => none
  | k + 1, x5, x6, x23, x24, x25, x30, x31, x32 => if x32 < x31 then (if 0 ≤ x32 then (if x32 < (x30.length : Int) then (if 0 ≤ (rd x30 x32) then (if (rd x30 x32) < (x5.length : Int) then (impl_Chains.l1 k (x5.set ((rd x30 x32) : Int).toNat x6) x6 x23 x24 x25 x30 x31 (wrap64 (x32 + 1))) else (none)) else (none)) else (none)) else (none)) else (impl_Chains.l0 k x5 x23 x24 (wrap64 (x25 + 1)))
end
def impl_Chains.f (k : Nat) (l0 : List (S25)) (a1 : Int) : Option (List Int) := (impl_TasksOk.f k l0).bind fun t184 => (if t184 = true then ((impl_turnOk.f a1).bind fun t185 => (impl_Chains.j0 k l0 a1 (!t185))) else (impl_Chains.j0 k l0 a1 true))
def laws_sameInts.l0 : Nat → List Int → List Int → Int → Option (Bool)
  | 0, _, _, _ => none
  | k + 1, x0, x1, x5 => if x5 < (x0.length : Int) then (if 0 ≤ x5 then (if x5 < (x1.length : Int) then (if (rd x0 x5) = (rd x1 x5) then (laws_sameInts.l0 k x0 x1 (wrap64 (x5 + 1))) else (some false)) else (none)) else (none)) else (some true)
def laws_sameInts.f (k : Nat) (l0 : List Int) (l1 : List Int) : Option (Bool) := if (l0.length : Int) = (l1.length : Int) then (laws_sameInts.l0 k l0 l1 0) else (some false)
def spec_l01In.f (a0 : Int) (a1 : Int) (a2 : Int) : Option (Bool) := if a1 ≤ a0 then (some (decide (a0 ≤ a2))) else (some false)
def spec_l16Task.f (a0_0 : Int) (a0_1 : Int) (a0_2 : Int) (a0_3 : Int) (a0_4 : Int) : Option (Bool) := (spec_l01In.f a0_0 0 29).bind fun t198 => (if t198 = true then ((spec_l01In.f a0_1 0 29).bind fun t199 => (if t199 = true then ((spec_l01In.f a0_3 0 100000).bind fun t200 => (if t200 = true then ((spec_l01In.f a0_2 0 (wrap64 (a0_3 - 1))).bind fun t201 => (if t201 = true then ((spec_l01In.f a0_4 0 2000).bind fun t202 => (some t202)) else (some false))) else (some false))) else (some false))) else (some false))
def spec_l16Turn.f (a0 : Int) : Option (Bool) := (spec_l01In.f a0 0 120).bind fun t203 => (some t203)
def spec_Follows.f (a0_0 : Int) (a0_1 : Int) (a0_2 : Int) (a0_3 : Int) (a0_4 : Int) (a1_0 : Int) (a1_1 : Int) (a1_2 : Int) (a1_3 : Int) (a1_4 : Int) (a2 : Int) : Option (Bool) := (spec_l16Task.f a0_0 a0_1 a0_2 a0_3 a0_4).bind fun t206 => (if t206 = true then ((spec_l16Task.f a1_0 a1_1 a1_2 a1_3 a1_4).bind fun t207 => (if t207 = true then ((spec_l16Turn.f a2).bind fun t208 => (if t208 = true then (if a0_1 = a1_0 then (some (decide ((wrap64 (a0_3 + a2)) ≤ a1_2))) else (some false)) else (some false))) else (some false))) else (some false))
def spec_TasksOk.l0 : Nat → List (S25) → Int → Option (Bool)
  | 0, _, _ => none
  | k + 1, x0, x3 => if x3 < (x0.length : Int) then (if 0 ≤ x3 then ((spec_l16Task.f ((rd_T25 x0 x3).f0) ((rd_T25 x0 x3).f1) ((rd_T25 x0 x3).f2) ((rd_T25 x0 x3).f3) ((rd_T25 x0 x3).f4)).bind fun t210 => (if t210 = true then (spec_TasksOk.l0 k x0 (wrap64 (x3 + 1))) else (some false))) else (none)) else (some (decide ((x0.length : Int) ≤ 40)))
def spec_TasksOk.f (k : Nat) (l0 : List (S25)) : Option (Bool) := spec_TasksOk.l0 k l0 0
def spec_l01Has.l0 : Nat → List Int → Int → Int → Option (Bool)
  | 0, _, _, _ => none
  | k + 1, x0, x1, x5 => if x5 < (x0.length : Int) then (if 0 ≤ x5 then (if (rd x0 x5) = x1 then (some true) else (spec_l01Has.l0 k x0 x1 (wrap64 (x5 + 1)))) else (none)) else (some false)
def spec_l01Has.f (k : Nat) (l0 : List Int) (a1 : Int) : Option (Bool) := spec_l01Has.l0 k l0 a1 0
mutual
def spec_l16Order.l0 : Nat → List (S25) → List Int → Option (List Int)
  | 0, _, _ => none
  | k + 1, x0, x3 => if (x3.length : Int) < (x0.length : Int) then (spec_l16Order.l1 k x0 x3 (-1) 0) else (some x3)
def spec_l16Order.l1 : Nat → List (S25) → List Int → Int → Int → Option (List Int)
  | 0, _, _, _, _ => none
  | k + 1, x0, x3, x4, x5 => if x5 < (x0.length : Int) then ((spec_l01Has.f k x3 x5).bind fun t215 => (if t215 = true then (spec_l16Order.l1 k x0 x3 x4 (wrap64 (x5 + 1))) else (if x4 < 0 then (spec_l16Order.l1 k x0 x3 x5 (wrap64 (x5 + 1))) else (if 0 ≤ x5 then (if 0 ≤ x4 then (if x4 < (x0.length : Int) then (if ((rd_T25 x0 x5).f2) < ((rd_T25 x0 x4).f2) then (spec_l16Order.l1 k x0 x3 x5 (wrap64 (x5 + 1))) else (spec_l16Order.l1 k x0 x3 x4 (wrap64 (x5 + 1)))) else (none)) else (none)) else (none))))) else (if x3.length < 17592186044416 then (spec_l16Order.l0 k x0 (x3 ++ [x4])) else (none))
end
def spec_l16Order.f (k : Nat) (l0 : List (S25)) : Option (List Int) := spec_l16Order.l0 k l0 (([] : List Int))
mutual
def spec_Chains.j0 : Nat → List (S25) → Int → Bool → Option (List Int)
  | 0, _, _, _ => none
  | k + 1, x0, x1, x20 => if x20 = true then (some ([] : List Int)) else (spec_Chains.l0 k x0 x1 (([] : List Int)) 0)
def spec_Chains.l0 : Nat → List (S25) → Int → List Int → Int → Option (List Int)
  | 0, _, _, _, _ => none
  | k + 1, x0, x1, x5, x6 => if x6 < (x0.length : Int) then (if x5.length < 17592186044416 then (spec_Chains.l0 k x0 x1 (x5 ++ [(-1)]) (wrap64 (x6 + 1))) else (none)) else ((spec_l16Order.f k x0).bind fun t229 => (spec_Chains.l1 k x0 x1 x5 t229 (([] : List Int)) 0))
def spec_Chains.l1 : Nat → List (S25) → Int → List Int → List Int → List Int → Int → Option (List Int)
  | 0, _, _, _, _, _, _ => none
  | k + 1, x0, x1, x5, x7, x8, x9 => if x9 < (x7.length : Int) then (if 0 ≤ x9 then (spec_Chains.l2 k x0 x1 x5 x7 x8 x9 (rd x7 x9) (-1) 0) else (none)) else (some x5)
def spec_Chains.l2 : Nat → List (S25) → Int → List Int → List Int → List Int → Int → Int → Int → Int → Option (List Int)
  | 0, _, _, _, _, _, _, _, _, _ => none
  | k + 1, x0, x1, x5, x7, x8, x9, x10, x11, x12 => if x12 < (x8.length : Int) then (if 0 ≤ x12 then (if 0 ≤ (rd x8 x12) then (if (rd x8 x12) < (x0.length : Int) then (if 0 ≤ x10 then (if x10 < (x0.length : Int) then ((spec_Follows.f ((rd_T25 x0 (rd x8 x12)).f0) ((rd_T25 x0 (rd x8 x12)).f1) ((rd_T25 x0 (rd x8 x12)).f2) ((rd_T25 x0 (rd x8 x12)).f3) ((rd_T25 x0 (rd x8 x12)).f4) ((rd_T25 x0 x10).f0) ((rd_T25 x0 x10).f1) ((rd_T25 x0 x10).f2) ((rd_T25 x0 x10).f3) ((rd_T25 x0 x10).f4) x1).bind fun t239 => (if t239 = true then (if x11 < 0 then (spec_Chains.l2 k x0 x1 x5 x7 x8 x9 x10 x12 (wrap64 (x12 + 1))) else (if 0 ≤ x11 then (if x11 < (x8.length : Int) then (if 0 ≤ (rd x8 x11) then (if (rd x8 x11) < (x0.length : Int) then (if ((rd_T25 x0 (rd x8 x12)).f3) < ((rd_T25 x0 (rd x8 x11)).f3) then (spec_Chains.l2 k x0 x1 x5 x7 x8 x9 x10 x12 (wrap64 (x12 + 1))) else (spec_Chains.l2 k x0 x1 x5 x7 x8 x9 x10 x11 (wrap64 (x12 + 1)))) else (none)) else (none)) else (none)) else (none))) else (spec_Chains.l2 k x0 x1 x5 x7 x8 x9 x10 x11 (wrap64 (x12 + 1))))) else (none)) else (none)) else (none)) else (none)) else (none)) else (if x11 < 0 then (if x8.length < 17592186044416 then ((some (x8 ++ [x10] : List Int)).bind fun y244 => (if 0 ≤ (x8.length : Int) then (if (x8.length : Int) < (y244.length : Int) then (if 0 ≤ x10 then (if x10 < (x5.length : Int) then (spec_Chains.l1 k x0 x1 (x5.set (x10 : Int).toNat (x8.length : Int)) x7 (y244.set ((x8.length : Int) : Int).toNat x10) (wrap64 (x9 + 1))) else (none)) else (none)) else (none)) else (none))) else (none)) else (if 0 ≤ x11 then (if x11 < (x8.length : Int) then (if 0 ≤ x10 then (if x10 < (x5.length : Int) then (spec_Chains.l1 k x0 x1 (x5.set (x10 : Int).toNat x11) x7 (x8.set (x11 : Int).toNat x10) (wrap64 (x9 + 1))) else (none)) else (none)) else (none)) else (none)))
end
def spec_Chains.f (k : Nat) (l0 : List (S25)) (a1 : Int) : Option (List Int) := (spec_TasksOk.f k l0).bind fun t221 => (if t221 = true then ((spec_l16Turn.f a1).bind fun t222 => (spec_Chains.j0 k l0 a1 (!t222))) else (spec_Chains.j0 k l0 a1 true))
mutual
def impl_Night.j0 : Nat → List (S25) → Int → Bool → Option (List Int)
  | 0, _, _, _ => none
  | k + 1, x0, x1, x15 => if x15 = true then (some ([] : List Int)) else ((impl_chains.f k x0 x1).bind fun t256 => (impl_Night.l0 k x0 (([] : List Int)) t256 (t256.length : Int) 0))
def impl_Night.l0 : Nat → List (S25) → List Int → List (List Int) → Int → Int → Option (List Int)
  | 0, _, _, _, _, _ => none
  | k + 1, x0, x5, x19, x20, x21 => if x21 < x20 then (if 0 ≤ x21 then (if x21 < (x19.length : Int) then (if 0 ≤ (wrap64 (((rd_L3 x19 x21).length : Int) - 1)) then (if (wrap64 (((rd_L3 x19 x21).length : Int) - 1)) < ((rd_L3 x19 x21).length : Int) then (if 0 ≤ (rd (rd_L3 x19 x21) (wrap64 (((rd_L3 x19 x21).length : Int) - 1))) then (if (rd (rd_L3 x19 x21) (wrap64 (((rd_L3 x19 x21).length : Int) - 1))) < (x0.length : Int) then (if x5.length < 17592186044416 then (impl_Night.l0 k x0 (x5 ++ [(rd_T25 x0 (rd (rd_L3 x19 x21) (wrap64 (((rd_L3 x19 x21).length : Int) - 1)))).f1]) x19 x20 (wrap64 (x21 + 1))) else (none)) else (none)) else (none)) else (none)) else (none)) else (none)) else (none)) else (some x5)
end
def impl_Night.f (k : Nat) (l0 : List (S25)) (a1 : Int) : Option (List Int) := (impl_TasksOk.f k l0).bind fun t251 => (if t251 = true then ((impl_turnOk.f a1).bind fun t252 => (impl_Night.j0 k l0 a1 (!t252))) else (impl_Night.j0 k l0 a1 true))
def impl_Balanced.l1 (xs : List Int) (i d : Int) : List Int := xs.set i.toNat (wrap64 (xs.getD i.toNat 0 + d))
def impl_Balanced.l0 : List S25 → List Int → Option Bool
  | [], xs => some (xs.all (fun x => decide (x = 0)))
  | t :: ts, xs => if 0 ≤ t.f0 ∧ t.f0 < 30 ∧ 0 ≤ t.f1 ∧ t.f1 < 30 then impl_Balanced.l0 ts (impl_Balanced.l1 (impl_Balanced.l1 xs t.f0 1) t.f1 (-1)) else none
def impl_Balanced.f (k : Nat) (l0 : List S25) : Option Bool := (impl_TasksOk.f k l0).bind fun t => if t = true then impl_Balanced.l0 l0 (List.replicate 30 0) else some false
mutual
def laws_FnOvernight.j1 : Nat → Int → List (S25) → Option (Bool)
  | 0, _, _ => none
  | k + 1, x4, x5 => (impl_Balanced.f k x5).bind fun t281 => (if t281 = true then ((impl_Chains.f k x5 x4).bind fun t282 => ((impl_Night.f k x5 x4).bind fun t285 => ((spec_Chains.f k x5 x4).bind fun t288 => ((laws_sameInts.f k t282 t288).bind fun t291 => (if t291 = true then (laws_FnOvernight.l1 k x5 t282 t285 0) else (some false)))))) else (some false))
def laws_FnOvernight.l1 : Nat → List (S25) → List Int → List Int → Int → Option (Bool)
  | 0, _, _, _, _ => none
  | k + 1, x5, x8, x9, x10 => if x10 < 3 then (laws_FnOvernight.l2 k x5 x8 x9 x10 0 0) else (some true)
def laws_FnOvernight.l2 : Nat → List (S25) → List Int → List Int → Int → Int → Int → Option (Bool)
  | 0, _, _, _, _, _, _ => none
  | k + 1, x5, x8, x9, x10, x11, x12 => if x12 < (x9.length : Int) then (if 0 ≤ x12 then (if (rd x9 x12) = x10 then (laws_FnOvernight.j4 k x5 x8 x9 x10 (wrap64 (x11 + 1)) x12) else (laws_FnOvernight.j4 k x5 x8 x9 x10 x11 x12)) else (none)) else (if x11 = 0 then (laws_FnOvernight.l1 k x5 x8 x9 (wrap64 (x10 + 1))) else (some false))
def laws_FnOvernight.j4 : Nat → List (S25) → List Int → List Int → Int → Int → Int → Option (Bool)
  | 0, _, _, _, _, _, _ => none
  | k + 1, x5, x8, x9, x10, x11, x12 => laws_FnOvernight.l3 k x5 x8 x9 x10 x11 x12 (-1) 0
def laws_FnOvernight.l3 : Nat → List (S25) → List Int → List Int → Int → Int → Int → Int → Int → Option (Bool)
  | 0, _, _, _, _, _, _, _, _ => none
  | k + 1, x5, x8, x9, x10, x11, x12, x13, x14 => if x14 < (x5.length : Int) then (if 0 ≤ x14 then (if x14 < (x8.length : Int) then (if (rd x8 x14) = x12 then (if x13 < 0 then (laws_FnOvernight.l3 k x5 x8 x9 x10 x11 x12 x14 (wrap64 (x14 + 1))) else (if 0 ≤ x13 then (if x13 < (x5.length : Int) then (if ((rd_T25 x5 x14).f2) < ((rd_T25 x5 x13).f2) then (laws_FnOvernight.l3 k x5 x8 x9 x10 x11 x12 x14 (wrap64 (x14 + 1))) else (laws_FnOvernight.l3 k x5 x8 x9 x10 x11 x12 x13 (wrap64 (x14 + 1)))) else (none)) else (none))) else (laws_FnOvernight.l3 k x5 x8 x9 x10 x11 x12 x13 (wrap64 (x14 + 1)))) else (none)) else (none)) else (if x13 < 0 then (some false) else (if 0 ≤ x13 then (if x13 < (x5.length : Int) then (if ((rd_T25 x5 x13).f0) = x10 then (laws_FnOvernight.l2 k x5 x8 x9 x10 (wrap64 (x11 - 1)) (wrap64 (x12 + 1))) else (laws_FnOvernight.l2 k x5 x8 x9 x10 x11 (wrap64 (x12 + 1)))) else (none)) else (none)))
def laws_FnOvernight.l0 : Nat → List (S25) → Int → List (S25) → Int → Option (Bool)
  | 0, _, _, _, _ => none
  | k + 1, x3, x4, x5, x6 => if x6 < (x3.length : Int) then (if (wrap64 ((x5.length : Int) + 2)) ≤ 40 then (if 0 ≤ x6 then ((some (([(⟨(rd_T25 x3 x6).f0, (rd_T25 x3 x6).f1, (rd_T25 x3 x6).f2, (rd_T25 x3 x6).f3, (rd_T25 x3 x6).f4⟩ : S25), (⟨(rd_T25 x3 x6).f1, (rd_T25 x3 x6).f0, wrap64 (((rd_T25 x3 x6).f2) + 1440), wrap64 (((rd_T25 x3 x6).f3) + 1440), (rd_T25 x3 x6).f4⟩ : S25)] : List (S25)) : List (S25))).bind fun y275 => (if x5.length + y275.length < 3518437208883 then (laws_FnOvernight.l0 k x3 x4 (x5 ++ y275) (wrap64 (x6 + 1))) else (none))) else (none)) else (laws_FnOvernight.j1 k x4 x5)) else (laws_FnOvernight.j1 k x4 x5)
end
def laws_FnOvernight.f (k : Nat) (l0 : List Int) : Option (Bool) := (laws_big.f l0).bind fun t265 => (if t265 = true then (some true) else ((spec_DrawRightTasks.f k l0).bind fun bt266 => (laws_FnOvernight.l0 k bt266.1 bt266.2 (([] : List (S25))) 0)))
def laws_FnOvernight.Pure : Prop := ∀ (l0 : List Int), l0.length ≤ maxLen → l0.length * 1 ≤ 140737488351232 → (∀ x ∈ l0, (Lit.int .u8 x).wf = true) → ∃ k, laws_FnOvernight.f k l0 = some true
mutual
def impl_Mileage.j0 : Nat → List (S25) → Int → Bool → Option (List Int)
  | 0, _, _, _ => none
  | k + 1, x0, x1, x18 => if x18 = true then (some ([] : List Int)) else ((impl_chains.f k x0 x1).bind fun t302 => (impl_Mileage.l0 k x0 (([] : List Int)) t302 (t302.length : Int) 0))
def impl_Mileage.l0 : Nat → List (S25) → List Int → List (List Int) → Int → Int → Option (List Int)
  | 0, _, _, _, _, _ => none
  | k + 1, x0, x5, x22, x23, x24 => if x24 < x23 then (if 0 ≤ x24 then (if x24 < (x22.length : Int) then (impl_Mileage.l1 k x0 x5 0 x22 x23 x24 (rd_L3 x22 x24) ((rd_L3 x22 x24).length : Int) 0) else (none)) else (none)) else (some x5)
def impl_Mileage.l1 : Nat → List (S25) → List Int → Int → List (List Int) → Int → Int → List Int → Int → Int → Option (List Int)
  | 0, _, _, _, _, _, _, _, _, _ => none
  | k + 1, x0, x5, x8, x22, x23, x24, x28, x29, x30 => if x30 < x29 then (if 0 ≤ x30 then (if x30 < (x28.length : Int) then (if 0 ≤ (rd x28 x30) then (if (rd x28 x30) < (x0.length : Int) then (impl_Mileage.l1 k x0 x5 (wrap64 (x8 + ((rd_T25 x0 (rd x28 x30)).f4))) x22 x23 x24 x28 x29 (wrap64 (x30 + 1))) else (none)) else (none)) else (none)) else (none)) else (if x5.length < 17592186044416 then (impl_Mileage.l0 k x0 (x5 ++ [x8]) x22 x23 (wrap64 (x24 + 1))) else (none))
end
def impl_Mileage.f (k : Nat) (l0 : List (S25)) (a1 : Int) : Option (List Int) := (impl_TasksOk.f k l0).bind fun t297 => (if t297 = true then ((impl_turnOk.f a1).bind fun t298 => (impl_Mileage.j0 k l0 a1 (!t298))) else (impl_Mileage.j0 k l0 a1 true))
def laws_at.f (l0 : List Int) (a1 : Int) : Option (Int) := if a1 < (l0.length : Int) then (if 0 ≤ a1 then (some (wrap64 (rd l0 a1))) else (none)) else (some (Int.tmod (wrap64 ((wrap64 (a1 * 11)) + (wrap64 ((l0.length : Int) * 3)))) 256))
def spec_l16Units.l0 : Nat → List Int → Int → Int → Option (Int)
  | 0, _, _, _ => none
  | k + 1, x0, x3, x4 => if x4 < (x0.length : Int) then (if 0 ≤ x4 then (if (rd x0 x4) ≥ x3 then (spec_l16Units.l0 k x0 (wrap64 ((rd x0 x4) + 1)) (wrap64 (x4 + 1))) else (spec_l16Units.l0 k x0 x3 (wrap64 (x4 + 1)))) else (none)) else (some x3)
def spec_l16Units.f (k : Nat) (l0 : List Int) : Option (Int) := spec_l16Units.l0 k l0 0 0
mutual
def spec_Due.l0 : Nat → List (S25) → Int → List Int → List Int → List Int → Int → Option (List Int)
  | 0, _, _, _, _, _, _ => none
  | k + 1, x0, x2, x7, x8, x9, x10 => (spec_l16Units.f k x7).bind fun t324 => (if x10 < t324 then (spec_Due.l1 k x0 x2 x7 x8 x9 x10 0 (-1) 0) else (some x8))
def spec_Due.l1 : Nat → List (S25) → Int → List Int → List Int → List Int → Int → Int → Int → Int → Option (List Int)
  | 0, _, _, _, _, _, _, _, _, _ => none
  | k + 1, x0, x2, x7, x8, x9, x10, x11, x12, x13 => if x13 < (x9.length : Int) then (if 0 ≤ x13 then (if 0 ≤ (rd x9 x13) then (if (rd x9 x13) < (x7.length : Int) then (if (rd x7 (rd x9 x13)) = x10 then (if (rd x9 x13) < (x0.length : Int) then (if (wrap64 (x11 + ((rd_T25 x0 (rd x9 x13)).f4))) > x2 then (if x12 < 0 then (spec_Due.l1 k x0 x2 x7 x8 x9 x10 (wrap64 (x11 + ((rd_T25 x0 (rd x9 x13)).f4))) (rd x9 x13) (wrap64 (x13 + 1))) else (spec_Due.l1 k x0 x2 x7 x8 x9 x10 (wrap64 (x11 + ((rd_T25 x0 (rd x9 x13)).f4))) x12 (wrap64 (x13 + 1)))) else (spec_Due.l1 k x0 x2 x7 x8 x9 x10 (wrap64 (x11 + ((rd_T25 x0 (rd x9 x13)).f4))) x12 (wrap64 (x13 + 1)))) else (none)) else (spec_Due.l1 k x0 x2 x7 x8 x9 x10 x11 x12 (wrap64 (x13 + 1)))) else (none)) else (none)) else (none)) else (if x8.length < 17592186044416 then (spec_Due.l0 k x0 x2 x7 (x8 ++ [x12]) x9 (wrap64 (x10 + 1))) else (none))
end
def spec_Due.f (k : Nat) (l0 : List (S25)) (a1 : Int) (a2 : Int) : Option (List Int) := (spec_l01In.f a2 0 1000000).bind fun t314 => (if t314 = true then ((spec_Chains.f k l0 a1).bind fun t315 => (if (t315.length : Int) = 0 then (some ([] : List Int)) else ((spec_l16Order.f k l0).bind fun t321 => (spec_Due.l0 k l0 a2 t315 (([] : List Int)) t321 0)))) else (some ([] : List Int)))
mutual
def impl_Due.j0 : Nat → List (S25) → Int → Int → Bool → Option (List Int)
  | 0, _, _, _, _ => none
  | k + 1, x0, x1, x2, x26 => if x26 = true then (some ([] : List Int)) else ((impl_chains.f k x0 x1).bind fun t339 => (impl_Due.l0 k x0 x2 (([] : List Int)) t339 (t339.length : Int) 0))
def impl_Due.l0 : Nat → List (S25) → Int → List Int → List (List Int) → Int → Int → Option (List Int)
  | 0, _, _, _, _, _, _ => none
  | k + 1, x0, x2, x7, x30, x31, x32 => if x32 < x31 then (if 0 ≤ x32 then (if x32 < (x30.length : Int) then (impl_Due.l1 k x0 x2 x7 (-1) 0 x30 x31 x32 (rd_L3 x30 x32) ((rd_L3 x30 x32).length : Int) 0) else (none)) else (none)) else (some x7)
def impl_Due.l1 : Nat → List (S25) → Int → List Int → Int → Int → List (List Int) → Int → Int → List Int → Int → Int → Option (List Int)
  | 0, _, _, _, _, _, _, _, _, _, _, _ => none
  | k + 1, x0, x2, x7, x10, x11, x30, x31, x32, x36, x37, x38 => if x38 < x37 then (if 0 ≤ x38 then (if x38 < (x36.length : Int) then (if 0 ≤ (rd x36 x38) then (if (rd x36 x38) < (x0.length : Int) then (if x10 < 0 then (if (wrap64 (x11 + ((rd_T25 x0 (rd x36 x38)).f4))) > x2 then (impl_Due.l1 k x0 x2 x7 (rd x36 x38) (wrap64 (x11 + ((rd_T25 x0 (rd x36 x38)).f4))) x30 x31 x32 x36 x37 (wrap64 (x38 + 1))) else (impl_Due.l1 k x0 x2 x7 x10 (wrap64 (x11 + ((rd_T25 x0 (rd x36 x38)).f4))) x30 x31 x32 x36 x37 (wrap64 (x38 + 1)))) else (impl_Due.l1 k x0 x2 x7 x10 (wrap64 (x11 + ((rd_T25 x0 (rd x36 x38)).f4))) x30 x31 x32 x36 x37 (wrap64 (x38 + 1)))) else (none)) else (none)) else (none)) else (none)) else (if x7.length < 17592186044416 then (impl_Due.l0 k x0 x2 (x7 ++ [x10]) x30 x31 (wrap64 (x32 + 1))) else (none))
end
def impl_Due.f (k : Nat) (l0 : List (S25)) (a1 : Int) (a2 : Int) : Option (List Int) := (impl_TasksOk.f k l0).bind fun t333 => (if t333 = true then ((impl_turnOk.f a1).bind fun t334 => (if t334 = true then ((impl_between.f a2 0 1000000).bind fun t335 => (impl_Due.j0 k l0 a1 a2 (!t335))) else (impl_Due.j0 k l0 a1 a2 true))) else (impl_Due.j0 k l0 a1 a2 true))
mutual
def laws_FnDue.j0 : Nat → List (S25) → Int → List Int → List Int → List Int → Bool → Option (Bool)
  | 0, _, _, _, _, _, _ => none
  | k + 1, x3, x5, x6, x7, x8, x53 => if x53 = true then (some false) else (laws_FnDue.l0 k x3 x5 x6 x7 x8 0)
def laws_FnDue.l0 : Nat → List (S25) → Int → List Int → List Int → List Int → Int → Option (Bool)
  | 0, _, _, _, _, _, _ => none
  | k + 1, x3, x5, x6, x7, x8, x9 => if x9 < (x8.length : Int) then (if 0 ≤ x9 then (if x9 < (x7.length : Int) then (if ((decide ((rd x8 x9) ≥ 0)) != (decide ((rd x7 x9) > x5))) = true then (some false) else (if (rd x8 x9) < 0 then (laws_FnDue.l0 k x3 x5 x6 x7 x8 (wrap64 (x9 + 1))) else (if (rd x8 x9) ≥ (x3.length : Int) then (laws_FnDue.j2 k x3 x5 x6 x7 x8 x9 true) else (if 0 ≤ (rd x8 x9) then (if (rd x8 x9) < (x6.length : Int) then (laws_FnDue.j2 k x3 x5 x6 x7 x8 x9 ((rd x6 (rd x8 x9)) != x9)) else (none)) else (none))))) else (none)) else (none)) else (some true)
def laws_FnDue.j2 : Nat → List (S25) → Int → List Int → List Int → List Int → Int → Bool → Option (Bool)
  | 0, _, _, _, _, _, _, _ => none
  | k + 1, x3, x5, x6, x7, x8, x9, x94 => if x94 = true then (some false) else (laws_FnDue.l1 k x3 x5 x6 x7 x8 x9 0 0)
def laws_FnDue.l1 : Nat → List (S25) → Int → List Int → List Int → List Int → Int → Int → Int → Option (Bool)
  | 0, _, _, _, _, _, _, _, _ => none
  | k + 1, x3, x5, x6, x7, x8, x9, x10, x11 => if x11 < (x3.length : Int) then (if 0 ≤ x11 then (if x11 < (x6.length : Int) then (if (rd x6 x11) = x9 then (if 0 ≤ x9 then (if x9 < (x8.length : Int) then (if 0 ≤ (rd x8 x9) then (if (rd x8 x9) < (x3.length : Int) then (if ((rd_T25 x3 x11).f2) < ((rd_T25 x3 (rd x8 x9)).f2) then (laws_FnDue.l1 k x3 x5 x6 x7 x8 x9 (wrap64 (x10 + ((rd_T25 x3 x11).f4))) (wrap64 (x11 + 1))) else (laws_FnDue.l1 k x3 x5 x6 x7 x8 x9 x10 (wrap64 (x11 + 1)))) else (none)) else (none)) else (none)) else (none)) else (laws_FnDue.l1 k x3 x5 x6 x7 x8 x9 x10 (wrap64 (x11 + 1)))) else (none)) else (none)) else (if x10 > x5 then (some false) else (if 0 ≤ x9 then (if x9 < (x8.length : Int) then (if 0 ≤ (rd x8 x9) then (if (rd x8 x9) < (x3.length : Int) then (if (wrap64 (x10 + ((rd_T25 x3 (rd x8 x9)).f4))) ≤ x5 then (some false) else (laws_FnDue.l0 k x3 x5 x6 x7 x8 (wrap64 (x9 + 1)))) else (none)) else (none)) else (none)) else (none)))
end
def laws_FnDue.f (k : Nat) (l0 : List Int) : Option (Bool) := (laws_big.f l0).bind fun t348 => (if t348 = true then (some true) else ((spec_DrawRightTasks.f k l0).bind fun bt349 => ((laws_at.f l0 3).bind fun t353 => ((impl_Chains.f k bt349.1 bt349.2).bind fun t354 => ((impl_Mileage.f k bt349.1 bt349.2).bind fun t357 => ((impl_Due.f k bt349.1 bt349.2 (wrap64 (t353 * 2))).bind fun t360 => (if (t360.length : Int) = (t357.length : Int) then ((spec_Chains.f k bt349.1 bt349.2).bind fun t363 => ((laws_sameInts.f k t354 t363).bind fun t366 => (if t366 = true then ((spec_Due.f k bt349.1 bt349.2 (wrap64 (t353 * 2))).bind fun t367 => ((laws_sameInts.f k t360 t367).bind fun t370 => (laws_FnDue.j0 k bt349.1 (wrap64 (t353 * 2)) t354 t357 t360 (!t370)))) else (laws_FnDue.j0 k bt349.1 (wrap64 (t353 * 2)) t354 t357 t360 true)))) else (laws_FnDue.j0 k bt349.1 (wrap64 (t353 * 2)) t354 t357 t360 true))))))))
def laws_FnDue.Pure : Prop := ∀ (l0 : List Int), l0.length ≤ maxLen → l0.length * 1 ≤ 140737488351232 → (∀ x ∈ l0, (Lit.int .u8 x).wf = true) → ∃ k, laws_FnDue.f k l0 = some true
end Go.Proofs.Ytoalolbifakpiaa.P

/- The functions of the program as plain Lean functions, without memory and machine; written by a program of the session. -/
import Derived.Test.YtoalolbifakpiaaProg
import Derived.Test.YtoalolbifakpiaaV
namespace Go.Proofs.Ytoalolbifakpiaa.P
open Go.RowKit Go.Proofs.YtoalolbifakpiaaW.PrintWords Go.Proofs.YtoalolbifakpiaaW.PrintLast Go.Proofs.YtoalolbifakpiaaW.PrintMore
set_option linter.unusedVariables false

structure S25 where
  f0 : Int
  f1 : Int
  f2 : Int
  f3 : Int
  f4 : Int
def z25 : S25 := ⟨(0 : Int), (0 : Int), (0 : Int), (0 : Int), (0 : Int)⟩
def rd_T25 (xs : List S25) (i : Int) : S25 := xs.getD i.toNat z25
def rd_L3 (xs : List (List Int)) (i : Int) : (List Int) := xs.getD i.toNat ([] : List Int)
structure S23 where
  f0 : Int
  f1 : Int
  f2 : Int
  f3 : Int
  f4 : Int
def z23 : S23 := ⟨(0 : Int), (0 : Int), (0 : Int), (0 : Int), (0 : Int)⟩
def rd_T23 (xs : List S23) (i : Int) : S23 := xs.getD i.toNat z23
def rd_L6 (xs : List (List S23)) (i : Int) : (List S23) := xs.getD i.toNat ([] : List S23)
def laws_big.f (l0 : List Int) : Option (Bool) := some (decide ((l0.length : Int) > 1048576))
def spec_l01New.l0 : Nat → List Int → Int → Int → Option (List Int × Int × Int)
  | 0, _, _, _ => none
  | k + 1, x0, x3, x4 => if x4 < (x0.length : Int) then (if x4 < 4000 then (if 0 ≤ x4 then (spec_l01New.l0 k x0 (Go.bits .and .i64 (wrap64 ((wrap64 ((wrap64 (x3 * 137)) + (wrap64 (rd x0 x4)))) + 11)) 1073741823) (wrap64 (x4 + 1))) else (none)) else (some (x0, 0, x3))) else (some (x0, 0, x3))
def spec_l01New.f (k : Nat) (l0 : List Int) : Option (List Int × Int × Int) := spec_l01New.l0 k l0 (wrap64 (75075 + (l0.length : Int))) 0
def spec_l01Byte.f (s0_0 : List Int) (s0_1 : Int) (s0_2 : Int) : Option (Int × Int × Int) := if s0_1 < (s0_0.length : Int) then (if 0 ≤ s0_1 then (some (Go.bits .and .i64 (wrap64 ((Go.bits .and .i64 (Go.bits .xor .i64 ((wrap64 ((wrap64 (s0_2 * 6364136223846793005)) + 1442695040888963407)) / 8589934592) ((wrap64 ((wrap64 (s0_2 * 6364136223846793005)) + 1442695040888963407)) / 35184372088832)) 255) + (wrap64 (rd s0_0 s0_1)))) 255, wrap64 (s0_1 + 1), wrap64 ((wrap64 (s0_2 * 6364136223846793005)) + 1442695040888963407))) else (none)) else (some (Go.bits .and .i64 (Go.bits .xor .i64 ((wrap64 ((wrap64 (s0_2 * 6364136223846793005)) + 1442695040888963407)) / 8589934592) ((wrap64 ((wrap64 (s0_2 * 6364136223846793005)) + 1442695040888963407)) / 35184372088832)) 255, s0_1, wrap64 ((wrap64 (s0_2 * 6364136223846793005)) + 1442695040888963407)))
def spec_l01Below.f (s0_0 : List Int) (s0_1 : Int) (s0_2 : Int) (a1 : Int) : Option (Int × Int × Int) := if a1 ≤ 0 then (some (0, s0_1, s0_2)) else (if a1 ≤ 256 then ((spec_l01Byte.f s0_0 s0_1 s0_2).bind fun bt105 => (if a1 = 0 then (none) else (some (Int.tmod bt105.1 a1, bt105.2.1, bt105.2.2)))) else ((spec_l01Byte.f s0_0 s0_1 s0_2).bind fun bt108 => ((spec_l01Byte.f s0_0 bt108.2.1 bt108.2.2).bind fun bt111 => ((spec_l01Byte.f s0_0 bt111.2.1 bt111.2.2).bind fun bt114 => (if a1 = 0 then (none) else (some (Int.tmod (wrap64 ((wrap64 ((wrap64 (bt108.1 * 65536)) + (wrap64 (bt111.1 * 256)))) + bt114.1)) a1, bt114.2.1, bt114.2.2)))))))
def spec_l01Size.f (l0 : List Int) (a1 : Int) : Option (Int) := if (wrap64 (2 + (wrap64 ((l0.length : Int) / 16)))) > a1 then (some a1) else (some (wrap64 (2 + (wrap64 ((l0.length : Int) / 16)))))
def spec_l01Once.f (s0_0 : List Int) (s0_1 : Int) (s0_2 : Int) (a1 : Int) : Option (Bool × Int × Int) := (spec_l01Below.f s0_0 s0_1 s0_2 a1).bind fun bt117 => (some ((bt117.1 == 0), bt117.2.1, bt117.2.2))
def spec_l16DrawRight.l0 : Nat → List (S25) → Int → List Int → Int → Int → Option ((List (S25)) × Int × Int)
  | 0, _, _, _, _, _ => none
  | k + 1, x7, x8, x1000, x1001, x1002 => if x8 > 0 then ((spec_l01Below.f x1000 x1001 x1002 300).bind fun bt127 => ((spec_l01Below.f x1000 bt127.2.1 bt127.2.2 3).bind fun bt130 => ((spec_l01Below.f x1000 bt130.2.1 bt130.2.2 3).bind fun bt133 => ((spec_l01Below.f x1000 bt133.2.1 bt133.2.2 50).bind fun bt136 => ((spec_l01Below.f x1000 bt136.2.1 bt136.2.2 90).bind fun bt139 => (if (x7.length : Int) > 0 then ((spec_l01Once.f x1000 bt139.2.1 bt139.2.2 3).bind fun bt143 => (if bt143.1 = true then (if x7.length < 3518437208883 then (spec_l16DrawRight.l0 k (x7 ++ [(⟨bt130.1, bt133.1, bt127.1, wrap64 ((wrap64 (bt127.1 + 1)) + bt136.1), bt139.1⟩ : S25)]) (wrap64 (x8 - 1)) x1000 bt143.2.1 bt143.2.2) else (none)) else ((spec_l01Below.f x1000 bt143.2.1 bt143.2.2 (x7.length : Int)).bind fun bt149 => (if 0 ≤ bt149.1 then (if bt149.1 < (x7.length : Int) then (if x7.length < 3518437208883 then (spec_l16DrawRight.l0 k (x7 ++ [(⟨(rd_T25 x7 bt149.1).f1, bt133.1, bt127.1, wrap64 ((wrap64 (bt127.1 + 1)) + bt136.1), bt139.1⟩ : S25)]) (wrap64 (x8 - 1)) x1000 bt149.2.1 bt149.2.2) else (none)) else (none)) else (none))))) else (if x7.length < 3518437208883 then (spec_l16DrawRight.l0 k (x7 ++ [(⟨bt130.1, bt133.1, bt127.1, wrap64 ((wrap64 (bt127.1 + 1)) + bt136.1), bt139.1⟩ : S25)]) (wrap64 (x8 - 1)) x1000 bt139.2.1 bt139.2.2) else (none)))))))) else (some (x7, x1001, x1002))
def spec_l16DrawRight.f (k : Nat) (s0_0 : List Int) (s0_1 : Int) (s0_2 : Int) (l1 : List Int) (a2 : Int) : Option ((List (S25)) × Int × Int) := (spec_l01Size.f l1 a2).bind fun t123 => ((spec_l01Below.f s0_0 s0_1 s0_2 (wrap64 (2 + t123))).bind fun bt124 => (spec_l16DrawRight.l0 k (([] : List (S25))) bt124.1 s0_0 bt124.2.1 bt124.2.2))
def spec_DrawRightTasks.f (k : Nat) (l0 : List Int) : Option ((List (S25)) × Int) := (spec_l01New.f k l0).bind fun bt159 => ((spec_l16DrawRight.f k bt159.1 bt159.2.1 bt159.2.2 l0 14).bind fun bt163 => ((spec_l01Below.f bt159.1 bt163.2.1 bt163.2.2 16).bind fun bt168 => (some (bt163.1, bt168.1))))
def impl_between.f (a0 : Int) (a1 : Int) (a2 : Int) : Option (Bool) := if a0 ≥ a1 then (some (decide (a0 ≤ a2))) else (some false)
def impl_isMinute.f (a0 : Int) : Option (Bool) := (impl_between.f a0 0 100000).bind fun t171 => (some t171)
def impl_taskOk.f (a0_0 : Int) (a0_1 : Int) (a0_2 : Int) (a0_3 : Int) (a0_4 : Int) : Option (Bool) := (impl_between.f a0_0 0 29).bind fun t173 => (if t173 = true then ((impl_between.f a0_1 0 29).bind fun t174 => (if t174 = true then ((impl_isMinute.f a0_2).bind fun t175 => (if t175 = true then ((impl_isMinute.f a0_3).bind fun t176 => (if t176 = true then (if a0_2 < a0_3 then ((impl_between.f a0_4 0 2000).bind fun t177 => (some t177)) else (some false)) else (some false))) else (some false))) else (some false))) else (some false))
def impl_TasksOk.l0 : Nat → List (S25) → Int → Int → Option (Bool)
  | 0, _, _, _ => none
  | k + 1, x8, x9, x10 => if x10 < x9 then (if 0 ≤ x10 then (if x10 < (x8.length : Int) then ((impl_taskOk.f ((rd_T25 x8 x10).f0) ((rd_T25 x8 x10).f1) ((rd_T25 x8 x10).f2) ((rd_T25 x8 x10).f3) ((rd_T25 x8 x10).f4)).bind fun t180 => (if t180 = true then (impl_TasksOk.l0 k x8 x9 (wrap64 (x10 + 1))) else (some false))) else (none)) else (none)) else (some true)
def impl_TasksOk.f (k : Nat) (l0 : List (S25)) : Option (Bool) := if (l0.length : Int) > 40 then (some false) else (impl_TasksOk.l0 k l0 (l0.length : Int) 0)
def impl_turnOk.f (a0 : Int) : Option (Bool) := (impl_between.f a0 0 120).bind fun t181 => (some t181)
def impl_follows.f (a0_0 : Int) (a0_1 : Int) (a0_2 : Int) (a0_3 : Int) (a0_4 : Int) (a1_0 : Int) (a1_1 : Int) (a1_2 : Int) (a1_3 : Int) (a1_4 : Int) (a2 : Int) : Option (Bool) := if a0_1 = a1_0 then (some (decide ((wrap64 (a0_3 + a2)) ≤ a1_2))) else (some false)
def impl_byDep.l1 (l : List S25) (a b : Nat) : Bool := decide ((rd_T25 l a).f2 < (rd_T25 l b).f2 ∨ ((rd_T25 l a).f2 = (rd_T25 l b).f2 ∧ a ≤ b))
def impl_byDep.l0 (l : List S25) : List Int := ((List.range l.length).mergeSort (impl_byDep.l1 l)).map (fun (i : Nat) => (i : Int))
def impl_byDep.f (k : Nat) (l0 : List S25) : Option (List Int) := if l0.length ≤ 40 then some (impl_byDep.l0 l0) else none
def impl_chains.l3 (turn : Int) (a b : S25) : Bool := decide (a.f1 = b.f0) && decide (wrap64 (a.f3 + turn) ≤ b.f2)
def impl_chains.l2 (us : List (List Int)) (u : Nat) : Int := rd (us.getD u []) (((us.getD u []).length - 1 : Nat) : Int)
def impl_chains.l1 (l : List S25) (turn t : Int) (us : List (List Int)) : Nat → Nat → Int → Int
  | 0, _, best => best
  | k + 1, u, best => if impl_chains.l3 turn (rd_T25 l (impl_chains.l2 us u)) (rd_T25 l t) = true then (if best < 0 then impl_chains.l1 l turn t us k (u + 1) u else if (rd_T25 l (impl_chains.l2 us u)).f3 < (rd_T25 l (impl_chains.l2 us best.toNat)).f3 then impl_chains.l1 l turn t us k (u + 1) u else impl_chains.l1 l turn t us k (u + 1) best) else impl_chains.l1 l turn t us k (u + 1) best
def impl_chains.l0 (l : List S25) (turn : Int) : List Int → List (List Int) → List (List Int)
  | [], us => us
  | t :: ts, us => if impl_chains.l1 l turn t us us.length 0 (-1) < 0 then impl_chains.l0 l turn ts (us ++ [[t]]) else impl_chains.l0 l turn ts (us.set (impl_chains.l1 l turn t us us.length 0 (-1)).toNat (us.getD (impl_chains.l1 l turn t us us.length 0 (-1)).toNat [] ++ [t]))
def impl_chains.f (k : Nat) (l0 : List S25) (a1 : Int) : Option (List (List Int)) := if l0.length ≤ 40 then some (impl_chains.l0 l0 a1 (impl_byDep.l0 l0) []) else none
mutual
def impl_Chains.j0 : Nat → List (S25) → Int → Bool → Option (List Int)
  | 0, _, _, _ => none
  | k + 1, x0, x1, x17 => if x17 = true then (some ([] : List Int)) else (if 0 ≤ (x0.length : Int) then (if ((x0.length : Int) : Int).toNat ≤ 35184372088832 then ((impl_chains.f k x0 x1).bind fun t189 => (impl_Chains.l0 k (List.replicate ((x0.length : Int) : Int).toNat 0) t189 (t189.length : Int) 0)) else (none)) else (none))
def impl_Chains.l0 : Nat → List Int → List (List Int) → Int → Int → Option (List Int)
  | 0, _, _, _, _ => none
  | k + 1, x5, x23, x24, x25 => if x25 < x24 then (if 0 ≤ x25 then (if x25 < (x23.length : Int) then (impl_Chains.l1 k x5 x25 x23 x24 x25 (rd_L3 x23 x25) ((rd_L3 x23 x25).length : Int) 0) else (none)) else (none)) else (some x5)
def impl_Chains.l1 : Nat → List Int → Int → List (List Int) → Int → Int → List Int → Int → Int → Option (List Int)
  | 0, _, _, _, _, _, _, _, _ => none
  | k + 1, x5, x6, x23, x24, x25, x30, x31, x32 => if x32 < x31 then (if 0 ≤ x32 then (if x32 < (x30.length : Int) then (if 0 ≤ (rd x30 x32) then (if (rd x30 x32) < (x5.length : Int) then (impl_Chains.l1 k (x5.set ((rd x30 x32) : Int).toNat x6) x6 x23 x24 x25 x30 x31 (wrap64 (x32 + 1))) else (none)) else (none)) else (none)) else (none)) else (impl_Chains.l0 k x5 x23 x24 (wrap64 (x25 + 1)))
end
def impl_Chains.f (k : Nat) (l0 : List (S25)) (a1 : Int) : Option (List Int) := (impl_TasksOk.f k l0).bind fun t184 => (if t184 = true then ((impl_turnOk.f a1).bind fun t185 => (impl_Chains.j0 k l0 a1 (!t185))) else (impl_Chains.j0 k l0 a1 true))
def impl_ChainOk.l1 (l : List S25) (turn : Int) (us : List Int) : List Int → List Int → Bool
  | [], _ => true
  | t :: ts, last => if 0 ≤ rd last (rd us t) ∧ impl_chains.l3 turn (rd_T25 l (rd last (rd us t))) (rd_T25 l t) = false then false else impl_ChainOk.l1 l turn us ts (last.set (rd us t).toNat t)
def impl_ChainOk.l0 (l : List S25) (turn : Int) (us : List Int) : Bool := us.all (fun u => decide (0 ≤ u) && decide (u ≤ 39)) && impl_ChainOk.l1 l turn us (impl_byDep.l0 l) (List.replicate 40 (-1))
def impl_ChainOk.f (k : Nat) (l0 : List S25) (a1 : Int) (l2 : List Int) : Option Bool := (impl_TasksOk.f k l0).bind fun t => if t = true then ((impl_turnOk.f a1).bind fun t2 => if t2 = true then (if l2.length = l0.length then some (impl_ChainOk.l0 l0 a1 l2) else some false) else some false) else some false
def laws_sameInts.l0 : Nat → List Int → List Int → Int → Option (Bool)
  | 0, _, _, _ => none
  | k + 1, x0, x1, x5 => if x5 < (x0.length : Int) then (if 0 ≤ x5 then (if x5 < (x1.length : Int) then (if (rd x0 x5) = (rd x1 x5) then (laws_sameInts.l0 k x0 x1 (wrap64 (x5 + 1))) else (some false)) else (none)) else (none)) else (some true)
def laws_sameInts.f (k : Nat) (l0 : List Int) (l1 : List Int) : Option (Bool) := if (l0.length : Int) = (l1.length : Int) then (laws_sameInts.l0 k l0 l1 0) else (some false)
def spec_l01In.f (a0 : Int) (a1 : Int) (a2 : Int) : Option (Bool) := if a1 ≤ a0 then (some (decide (a0 ≤ a2))) else (some false)
def spec_l16Task.f (a0_0 : Int) (a0_1 : Int) (a0_2 : Int) (a0_3 : Int) (a0_4 : Int) : Option (Bool) := (spec_l01In.f a0_0 0 29).bind fun t198 => (if t198 = true then ((spec_l01In.f a0_1 0 29).bind fun t199 => (if t199 = true then ((spec_l01In.f a0_3 0 100000).bind fun t200 => (if t200 = true then ((spec_l01In.f a0_2 0 (wrap64 (a0_3 - 1))).bind fun t201 => (if t201 = true then ((spec_l01In.f a0_4 0 2000).bind fun t202 => (some t202)) else (some false))) else (some false))) else (some false))) else (some false))
def spec_l16Turn.f (a0 : Int) : Option (Bool) := (spec_l01In.f a0 0 120).bind fun t203 => (some t203)
def spec_Follows.f (a0_0 : Int) (a0_1 : Int) (a0_2 : Int) (a0_3 : Int) (a0_4 : Int) (a1_0 : Int) (a1_1 : Int) (a1_2 : Int) (a1_3 : Int) (a1_4 : Int) (a2 : Int) : Option (Bool) := (spec_l16Task.f a0_0 a0_1 a0_2 a0_3 a0_4).bind fun t206 => (if t206 = true then ((spec_l16Task.f a1_0 a1_1 a1_2 a1_3 a1_4).bind fun t207 => (if t207 = true then ((spec_l16Turn.f a2).bind fun t208 => (if t208 = true then (if a0_1 = a1_0 then (some (decide ((wrap64 (a0_3 + a2)) ≤ a1_2))) else (some false)) else (some false))) else (some false))) else (some false))
def spec_TasksOk.l0 : Nat → List (S25) → Int → Option (Bool)
  | 0, _, _ => none
  | k + 1, x0, x3 => if x3 < (x0.length : Int) then (if 0 ≤ x3 then ((spec_l16Task.f ((rd_T25 x0 x3).f0) ((rd_T25 x0 x3).f1) ((rd_T25 x0 x3).f2) ((rd_T25 x0 x3).f3) ((rd_T25 x0 x3).f4)).bind fun t210 => (if t210 = true then (spec_TasksOk.l0 k x0 (wrap64 (x3 + 1))) else (some false))) else (none)) else (some (decide ((x0.length : Int) ≤ 40)))
def spec_TasksOk.f (k : Nat) (l0 : List (S25)) : Option (Bool) := spec_TasksOk.l0 k l0 0
def spec_l01Has.l0 : Nat → List Int → Int → Int → Option (Bool)
  | 0, _, _, _ => none
  | k + 1, x0, x1, x5 => if x5 < (x0.length : Int) then (if 0 ≤ x5 then (if (rd x0 x5) = x1 then (some true) else (spec_l01Has.l0 k x0 x1 (wrap64 (x5 + 1)))) else (none)) else (some false)
def spec_l01Has.f (k : Nat) (l0 : List Int) (a1 : Int) : Option (Bool) := spec_l01Has.l0 k l0 a1 0
mutual
def spec_l16Order.l0 : Nat → List (S25) → List Int → Option (List Int)
  | 0, _, _ => none
  | k + 1, x0, x3 => if (x3.length : Int) < (x0.length : Int) then (spec_l16Order.l1 k x0 x3 (-1) 0) else (some x3)
def spec_l16Order.l1 : Nat → List (S25) → List Int → Int → Int → Option (List Int)
  | 0, _, _, _, _ => none
  | k + 1, x0, x3, x4, x5 => if x5 < (x0.length : Int) then ((spec_l01Has.f k x3 x5).bind fun t215 => (if t215 = true then (spec_l16Order.l1 k x0 x3 x4 (wrap64 (x5 + 1))) else (if x4 < 0 then (spec_l16Order.l1 k x0 x3 x5 (wrap64 (x5 + 1))) else (if 0 ≤ x5 then (if 0 ≤ x4 then (if x4 < (x0.length : Int) then (if ((rd_T25 x0 x5).f2) < ((rd_T25 x0 x4).f2) then (spec_l16Order.l1 k x0 x3 x5 (wrap64 (x5 + 1))) else (spec_l16Order.l1 k x0 x3 x4 (wrap64 (x5 + 1)))) else (none)) else (none)) else (none))))) else (if x3.length < 17592186044416 then (spec_l16Order.l0 k x0 (x3 ++ [x4])) else (none))
end
def spec_l16Order.f (k : Nat) (l0 : List (S25)) : Option (List Int) := spec_l16Order.l0 k l0 (([] : List Int))
mutual
def spec_Chains.j0 : Nat → List (S25) → Int → Bool → Option (List Int)
  | 0, _, _, _ => none
  | k + 1, x0, x1, x20 => if x20 = true then (some ([] : List Int)) else (spec_Chains.l0 k x0 x1 (([] : List Int)) 0)
def spec_Chains.l0 : Nat → List (S25) → Int → List Int → Int → Option (List Int)
  | 0, _, _, _, _ => none
  | k + 1, x0, x1, x5, x6 => if x6 < (x0.length : Int) then (if x5.length < 17592186044416 then (spec_Chains.l0 k x0 x1 (x5 ++ [(-1)]) (wrap64 (x6 + 1))) else (none)) else ((spec_l16Order.f k x0).bind fun t229 => (spec_Chains.l1 k x0 x1 x5 t229 (([] : List Int)) 0))
def spec_Chains.l1 : Nat → List (S25) → Int → List Int → List Int → List Int → Int → Option (List Int)
  | 0, _, _, _, _, _, _ => none
  | k + 1, x0, x1, x5, x7, x8, x9 => if x9 < (x7.length : Int) then (if 0 ≤ x9 then (spec_Chains.l2 k x0 x1 x5 x7 x8 x9 (rd x7 x9) (-1) 0) else (none)) else (some x5)
def spec_Chains.l2 : Nat → List (S25) → Int → List Int → List Int → List Int → Int → Int → Int → Int → Option (List Int)
  | 0, _, _, _, _, _, _, _, _, _ => none
  | k + 1, x0, x1, x5, x7, x8, x9, x10, x11, x12 => if x12 < (x8.length : Int) then (if 0 ≤ x12 then (if 0 ≤ (rd x8 x12) then (if (rd x8 x12) < (x0.length : Int) then (if 0 ≤ x10 then (if x10 < (x0.length : Int) then ((spec_Follows.f ((rd_T25 x0 (rd x8 x12)).f0) ((rd_T25 x0 (rd x8 x12)).f1) ((rd_T25 x0 (rd x8 x12)).f2) ((rd_T25 x0 (rd x8 x12)).f3) ((rd_T25 x0 (rd x8 x12)).f4) ((rd_T25 x0 x10).f0) ((rd_T25 x0 x10).f1) ((rd_T25 x0 x10).f2) ((rd_T25 x0 x10).f3) ((rd_T25 x0 x10).f4) x1).bind fun t239 => (if t239 = true then (if x11 < 0 then (spec_Chains.l2 k x0 x1 x5 x7 x8 x9 x10 x12 (wrap64 (x12 + 1))) else (if 0 ≤ x11 then (if x11 < (x8.length : Int) then (if 0 ≤ (rd x8 x11) then (if (rd x8 x11) < (x0.length : Int) then (if ((rd_T25 x0 (rd x8 x12)).f3) < ((rd_T25 x0 (rd x8 x11)).f3) then (spec_Chains.l2 k x0 x1 x5 x7 x8 x9 x10 x12 (wrap64 (x12 + 1))) else (spec_Chains.l2 k x0 x1 x5 x7 x8 x9 x10 x11 (wrap64 (x12 + 1)))) else (none)) else (none)) else (none)) else (none))) else (spec_Chains.l2 k x0 x1 x5 x7 x8 x9 x10 x11 (wrap64 (x12 + 1))))) else (none)) else (none)) else (none)) else (none)) else (none)) else (if x11 < 0 then (if x8.length < 17592186044416 then ((some (x8 ++ [x10] : List Int)).bind fun y244 => (if 0 ≤ (x8.length : Int) then (if (x8.length : Int) < (y244.length : Int) then (if 0 ≤ x10 then (if x10 < (x5.length : Int) then (spec_Chains.l1 k x0 x1 (x5.set (x10 : Int).toNat (x8.length : Int)) x7 (y244.set ((x8.length : Int) : Int).toNat x10) (wrap64 (x9 + 1))) else (none)) else (none)) else (none)) else (none))) else (none)) else (if 0 ≤ x11 then (if x11 < (x8.length : Int) then (if 0 ≤ x10 then (if x10 < (x5.length : Int) then (spec_Chains.l1 k x0 x1 (x5.set (x10 : Int).toNat x11) x7 (x8.set (x11 : Int).toNat x10) (wrap64 (x9 + 1))) else (none)) else (none)) else (none)) else (none)))
end
def spec_Chains.f (k : Nat) (l0 : List (S25)) (a1 : Int) : Option (List Int) := (spec_TasksOk.f k l0).bind fun t221 => (if t221 = true then ((spec_l16Turn.f a1).bind fun t222 => (spec_Chains.j0 k l0 a1 (!t222))) else (spec_Chains.j0 k l0 a1 true))
def laws_within.l0 : Nat → List Int → Int → Int → Option (Bool)
  | 0, _, _, _ => none
  | k + 1, x0, x1, x5 => if x5 < (x0.length : Int) then (if 0 ≤ x5 then (if (rd x0 x5) = x1 then (some true) else (laws_within.l0 k x0 x1 (wrap64 (x5 + 1)))) else (none)) else (some false)
def laws_within.f (k : Nat) (l0 : List Int) (a1 : Int) : Option (Bool) := laws_within.l0 k l0 a1 0
mutual
def impl_Mileage.j0 : Nat → List (S25) → Int → Bool → Option (List Int)
  | 0, _, _, _ => none
  | k + 1, x0, x1, x18 => if x18 = true then (some ([] : List Int)) else ((impl_chains.f k x0 x1).bind fun t257 => (impl_Mileage.l0 k x0 (([] : List Int)) t257 (t257.length : Int) 0))
def impl_Mileage.l0 : Nat → List (S25) → List Int → List (List Int) → Int → Int → Option (List Int)
  | 0, _, _, _, _, _ => none
  | k + 1, x0, x5, x22, x23, x24 => if x24 < x23 then (if 0 ≤ x24 then (if x24 < (x22.length : Int) then (impl_Mileage.l1 k x0 x5 0 x22 x23 x24 (rd_L3 x22 x24) ((rd_L3 x22 x24).length : Int) 0) else (none)) else (none)) else (some x5)
def impl_Mileage.l1 : Nat → List (S25) → List Int → Int → List (List Int) → Int → Int → List Int → Int → Int → Option (List Int)
  | 0, _, _, _, _, _, _, _, _, _ => none
  | k + 1, x0, x5, x8, x22, x23, x24, x28, x29, x30 => if x30 < x29 then (if 0 ≤ x30 then (if x30 < (x28.length : Int) then (if 0 ≤ (rd x28 x30) then (if (rd x28 x30) < (x0.length : Int) then (impl_Mileage.l1 k x0 x5 (wrap64 (x8 + ((rd_T25 x0 (rd x28 x30)).f4))) x22 x23 x24 x28 x29 (wrap64 (x30 + 1))) else (none)) else (none)) else (none)) else (none)) else (if x5.length < 17592186044416 then (impl_Mileage.l0 k x0 (x5 ++ [x8]) x22 x23 (wrap64 (x24 + 1))) else (none))
end
def impl_Mileage.f (k : Nat) (l0 : List (S25)) (a1 : Int) : Option (List Int) := (impl_TasksOk.f k l0).bind fun t252 => (if t252 = true then ((impl_turnOk.f a1).bind fun t253 => (impl_Mileage.j0 k l0 a1 (!t253))) else (impl_Mileage.j0 k l0 a1 true))
def impl_Fleet.l3 (turn : Int) (a b : S25) : Bool := decide (a.f1 = b.f0) && decide (wrap64 (a.f3 + turn) ≤ b.f2)
def impl_Fleet.l0 (l : List S25) (turn : Int) : Nat → Int → List Int → List Bool → Int → Option (Bool × List Int × List Bool)
  | 0, _, _, _, _ => none
  | k + 1, a, bf, sn, b => if b < (l.length : Int) then (if rdOf false sn b = true then impl_Fleet.l0 l turn k a bf sn (b + 1) else (if impl_Fleet.l3 turn (rd_T25 l a) (rd_T25 l b) = false then impl_Fleet.l0 l turn k a bf sn (b + 1) else (if rd bf b < 0 then some (true, bf.set b.toNat a, sn.set b.toNat true) else ((impl_Fleet.l0 l turn k (rd bf b) bf (sn.set b.toNat true) 0).bind fun r => if r.1 = true then some (true, r.2.1.set b.toNat a, r.2.2) else impl_Fleet.l0 l turn k a r.2.1 r.2.2 (b + 1))))) else some (false, bf, sn)
def impl_Fleet.l1 (l : List S25) (turn : Int) (k : Nat) : List Nat → List Int → Int → Option Int
  | [], _, u => some u
  | a :: q, bf, u => (impl_Fleet.l0 l turn k (a : Int) bf (List.replicate l.length false) 0).bind fun r => impl_Fleet.l1 l turn k q r.2.1 (if r.1 = true then u - 1 else u)
def impl_Fleet.f (k : Nat) (l0 : List S25) (a1 : Int) : Option Int := (impl_TasksOk.f k l0).bind fun t => if t = true then ((impl_turnOk.f a1).bind fun t2 => if t2 = true then impl_Fleet.l1 l0 a1 k (List.range l0.length) (List.replicate l0.length (-1)) (l0.length : Int) else some (-1)) else some (-1)
def laws_sum.l0 : Nat → List Int → Int → Int → Option (Int)
  | 0, _, _, _ => none
  | k + 1, x0, x3, x4 => if x4 < (x0.length : Int) then (if 0 ≤ x4 then (laws_sum.l0 k x0 (wrap64 (x3 + (rd x0 x4))) (wrap64 (x4 + 1))) else (none)) else (some x3)
def laws_sum.f (k : Nat) (l0 : List Int) : Option (Int) := laws_sum.l0 k l0 0 0
mutual
def impl_Night.j0 : Nat → List (S25) → Int → Bool → Option (List Int)
  | 0, _, _, _ => none
  | k + 1, x0, x1, x15 => if x15 = true then (some ([] : List Int)) else ((impl_chains.f k x0 x1).bind fun t278 => (impl_Night.l0 k x0 (([] : List Int)) t278 (t278.length : Int) 0))
def impl_Night.l0 : Nat → List (S25) → List Int → List (List Int) → Int → Int → Option (List Int)
  | 0, _, _, _, _, _ => none
  | k + 1, x0, x5, x19, x20, x21 => if x21 < x20 then (if 0 ≤ x21 then (if x21 < (x19.length : Int) then (if 0 ≤ (wrap64 (((rd_L3 x19 x21).length : Int) - 1)) then (if (wrap64 (((rd_L3 x19 x21).length : Int) - 1)) < ((rd_L3 x19 x21).length : Int) then (if 0 ≤ (rd (rd_L3 x19 x21) (wrap64 (((rd_L3 x19 x21).length : Int) - 1))) then (if (rd (rd_L3 x19 x21) (wrap64 (((rd_L3 x19 x21).length : Int) - 1))) < (x0.length : Int) then (if x5.length < 17592186044416 then (impl_Night.l0 k x0 (x5 ++ [(rd_T25 x0 (rd (rd_L3 x19 x21) (wrap64 (((rd_L3 x19 x21).length : Int) - 1)))).f1]) x19 x20 (wrap64 (x21 + 1))) else (none)) else (none)) else (none)) else (none)) else (none)) else (none)) else (none)) else (some x5)
end
def impl_Night.f (k : Nat) (l0 : List (S25)) (a1 : Int) : Option (List Int) := (impl_TasksOk.f k l0).bind fun t273 => (if t273 = true then ((impl_turnOk.f a1).bind fun t274 => (impl_Night.j0 k l0 a1 (!t274))) else (impl_Night.j0 k l0 a1 true))
mutual
def laws_FnChains.j0 : Nat → List (S25) → Int → List Int → Bool → Option (Bool)
  | 0, _, _, _, _ => none
  | k + 1, x3, x4, x5, x40 => if x40 = true then (some false) else (laws_FnChains.l0 k x3 x4 x5 0 0 0)
def laws_FnChains.l0 : Nat → List (S25) → Int → List Int → Int → Int → Int → Option (Bool)
  | 0, _, _, _, _, _, _ => none
  | k + 1, x3, x4, x5, x6, x7, x8 => if x8 < (x5.length : Int) then (if 0 ≤ x8 then (if (wrap64 ((rd x5 x8) + 1)) > x6 then (if x8 < (x3.length : Int) then (laws_FnChains.l0 k x3 x4 x5 (wrap64 ((rd x5 x8) + 1)) (wrap64 (x7 + ((rd_T25 x3 x8).f4))) (wrap64 (x8 + 1))) else (none)) else (if x8 < (x3.length : Int) then (laws_FnChains.l0 k x3 x4 x5 x6 (wrap64 (x7 + ((rd_T25 x3 x8).f4))) (wrap64 (x8 + 1))) else (none))) else (none)) else (laws_FnChains.l1 k x3 x4 x5 x6 x7 0)
def laws_FnChains.l1 : Nat → List (S25) → Int → List Int → Int → Int → Int → Option (Bool)
  | 0, _, _, _, _, _, _ => none
  | k + 1, x3, x4, x5, x6, x7, x9 => if x9 < x6 then ((laws_within.f k x5 x9).bind fun t304 => (if t304 = true then (laws_FnChains.l1 k x3 x4 x5 x6 x7 (wrap64 (x9 + 1))) else (some false))) else ((impl_Mileage.f k x3 x4).bind fun t305 => ((impl_Fleet.f k x3 x4).bind fun t308 => (if x6 = t308 then (if (t305.length : Int) = x6 then ((laws_sum.f k t305).bind fun t309 => (if t309 = x7 then ((impl_Night.f k x3 x4).bind fun t310 => (some ((t310.length : Int) == x6))) else (some false))) else (some false)) else (some false))))
end
def laws_FnChains.f (k : Nat) (l0 : List Int) : Option (Bool) := (laws_big.f l0).bind fun t287 => (if t287 = true then (some true) else ((spec_DrawRightTasks.f k l0).bind fun bt288 => ((impl_Chains.f k bt288.1 bt288.2).bind fun t292 => (if (t292.length : Int) = (bt288.1.length : Int) then ((impl_ChainOk.f k bt288.1 bt288.2 t292).bind fun t295 => (if t295 = true then ((spec_Chains.f k bt288.1 bt288.2).bind fun t296 => ((laws_sameInts.f k t292 t296).bind fun t299 => (laws_FnChains.j0 k bt288.1 bt288.2 t292 (!t299)))) else (laws_FnChains.j0 k bt288.1 bt288.2 t292 true))) else (laws_FnChains.j0 k bt288.1 bt288.2 t292 true)))))
def laws_FnChains.Pure : Prop := ∀ (l0 : List Int), l0.length ≤ maxLen → l0.length * 1 ≤ 140737488351232 → (∀ x ∈ l0, (Lit.int .u8 x).wf = true) → ∃ k, laws_FnChains.f k l0 = some true
def laws_szTaskS.f (l0 : List (S23)) (a1 : Int) : Option (Int) := if (wrap64 (a1 - (l0.length : Int))) < 0 then (some (-1)) else (some (wrap64 (a1 - (l0.length : Int))))
def laws_toTask.f (a0_0 : Int) (a0_1 : Int) (a0_2 : Int) (a0_3 : Int) (a0_4 : Int) : Option (Int × Int × Int × Int × Int) := some (a0_0, a0_1, a0_2, a0_3, a0_4)
def laws_toTaskS.l0 : Nat → List (S23) → List (S25) → Int → Option ((List (S25)))
  | 0, _, _, _ => none
  | k + 1, x0, x3, x4 => if x4 < (x0.length : Int) then (if 0 ≤ x4 then ((laws_toTask.f ((rd_T23 x0 x4).f0) ((rd_T23 x0 x4).f1) ((rd_T23 x0 x4).f2) ((rd_T23 x0 x4).f3) ((rd_T23 x0 x4).f4)).bind fun bt320 => (if x4 < (x3.length : Int) then (laws_toTaskS.l0 k x0 (x3.set (x4 : Int).toNat (⟨bt320.1, bt320.2.1, bt320.2.2.1, bt320.2.2.2.1, bt320.2.2.2.2⟩ : S25)) (wrap64 (x4 + 1))) else (none))) else (none)) else (some x3)
def laws_toTaskS.f (k : Nat) (l0 : List (S23)) : Option ((List (S25))) := if 0 ≤ (l0.length : Int) then (if ((l0.length : Int) : Int).toNat ≤ 7036874417766 then (laws_toTaskS.l0 k l0 (List.replicate ((l0.length : Int) : Int).toNat z25) 0) else (none)) else (none)
def laws_eqTask.f (a0_0 : Int) (a0_1 : Int) (a0_2 : Int) (a0_3 : Int) (a0_4 : Int) (a1_0 : Int) (a1_1 : Int) (a1_2 : Int) (a1_3 : Int) (a1_4 : Int) : Option (Bool) := if a0_0 = a1_0 then (if a0_1 = a1_1 then (if a0_2 = a1_2 then (if a0_3 = a1_3 then (if a0_4 = a1_4 then (some true) else (some false)) else (some false)) else (some false)) else (some false)) else (some false)
def laws_eqTaskS.l0 : Nat → List (S25) → List (S25) → Int → Option (Bool)
  | 0, _, _, _ => none
  | k + 1, x0, x1, x5 => if x5 < (x0.length : Int) then (if 0 ≤ x5 then (if x5 < (x1.length : Int) then ((laws_eqTask.f ((rd_T25 x0 x5).f0) ((rd_T25 x0 x5).f1) ((rd_T25 x0 x5).f2) ((rd_T25 x0 x5).f3) ((rd_T25 x0 x5).f4) ((rd_T25 x1 x5).f0) ((rd_T25 x1 x5).f1) ((rd_T25 x1 x5).f2) ((rd_T25 x1 x5).f3) ((rd_T25 x1 x5).f4)).bind fun t330 => (if t330 = true then (laws_eqTaskS.l0 k x0 x1 (wrap64 (x5 + 1))) else (some false))) else (none)) else (none)) else (some true)
def laws_eqTaskS.f (k : Nat) (l0 : List (S25)) (l1 : List (S25)) : Option (Bool) := if (l0.length : Int) = (l1.length : Int) then (laws_eqTaskS.l0 k l0 l1 0) else (some false)
mutual
def spec_l16Match.l0 : Nat → List (S25) → Int → Int → List Int → List Bool → Int → Option (Bool × List Int × List Bool)
  | 0, _, _, _, _, _, _ => none
  | k + 1, x0, x1, x2, x3, x4, x11 => if x11 < (x0.length : Int) then (if 0 ≤ x11 then (if x11 < (x4.length : Int) then (if rdOf false x4 x11 = true then (spec_l16Match.j1 k x0 x1 x2 x3 x4 x11 true) else (if 0 ≤ x2 then (if x2 < (x0.length : Int) then ((spec_Follows.f ((rd_T25 x0 x2).f0) ((rd_T25 x0 x2).f1) ((rd_T25 x0 x2).f2) ((rd_T25 x0 x2).f3) ((rd_T25 x0 x2).f4) ((rd_T25 x0 x11).f0) ((rd_T25 x0 x11).f1) ((rd_T25 x0 x11).f2) ((rd_T25 x0 x11).f3) ((rd_T25 x0 x11).f4) x1).bind fun t334 => (spec_l16Match.j1 k x0 x1 x2 x3 x4 x11 (!t334))) else (none)) else (none))) else (none)) else (none)) else (some (false, x3, x4))
def spec_l16Match.j1 : Nat → List (S25) → Int → Int → List Int → List Bool → Int → Bool → Option (Bool × List Int × List Bool)
  | 0, _, _, _, _, _, _, _ => none
  | k + 1, x0, x1, x2, x3, x4, x11, x34 => if x34 = true then (spec_l16Match.l0 k x0 x1 x2 x3 x4 (wrap64 (x11 + 1))) else (if 0 ≤ x11 then (if x11 < (x4.length : Int) then ((some (x4.set (x11 : Int).toNat true : List Bool)).bind fun y335 => (if x11 < (x3.length : Int) then (if (rd x3 x11) < 0 then (some (true, (x3.set (x11 : Int).toNat x2), y335)) else ((spec_l16Match.f k x0 x1 (rd x3 x11) x3 y335).bind fun bt339 => (if bt339.1 = true then (some (true, (bt339.2.1.set (x11 : Int).toNat x2), bt339.2.2)) else (spec_l16Match.l0 k x0 x1 x2 bt339.2.1 bt339.2.2 (wrap64 (x11 + 1)))))) else (none))) else (none)) else (none))
def spec_l16Match.f : Nat → List (S25) → Int → Int → List Int → List Bool → Option (Bool × List Int × List Bool)
  | 0, _, _, _, _, _ => none
  | k + 1, l0, a1, a2, l3, l4 => spec_l16Match.l0 k l0 a1 a2 l3 l4 0
end
mutual
def spec_Fleet.j0 : Nat → List (S25) → Int → Bool → Option (Int)
  | 0, _, _, _ => none
  | k + 1, x0, x1, x16 => if x16 = true then (some (-1)) else (spec_Fleet.l0 k x0 x1 (([] : List Int)) 0)
def spec_Fleet.l0 : Nat → List (S25) → Int → List Int → Int → Option (Int)
  | 0, _, _, _, _ => none
  | k + 1, x0, x1, x5, x6 => if x6 < (x0.length : Int) then (if x5.length < 17592186044416 then (spec_Fleet.l0 k x0 x1 (x5 ++ [(-1)]) (wrap64 (x6 + 1))) else (none)) else (spec_Fleet.l1 k x0 x1 x5 (x0.length : Int) 0)
def spec_Fleet.l1 : Nat → List (S25) → Int → List Int → Int → Int → Option (Int)
  | 0, _, _, _, _, _ => none
  | k + 1, x0, x1, x5, x7, x8 => if x8 < (x0.length : Int) then (if 0 ≤ (x0.length : Int) then (if ((x0.length : Int) : Int).toNat ≤ 281474976710656 then ((spec_l16Match.f k x0 x1 x8 x5 (List.replicate ((x0.length : Int) : Int).toNat false)).bind fun bt354 => (if bt354.1 = true then (spec_Fleet.l1 k x0 x1 bt354.2.1 (wrap64 (x7 - 1)) (wrap64 (x8 + 1))) else (spec_Fleet.l1 k x0 x1 bt354.2.1 x7 (wrap64 (x8 + 1))))) else (none)) else (none)) else (some x7)
end
def spec_Fleet.f (k : Nat) (l0 : List (S25)) (a1 : Int) : Option (Int) := (spec_TasksOk.f k l0).bind fun t343 => (if t343 = true then ((spec_l16Turn.f a1).bind fun t344 => (spec_Fleet.j0 k l0 a1 (!t344))) else (spec_Fleet.j0 k l0 a1 true))
def laws_FnExactFleet.f (k : Nat) (l0 : List (S23)) (a1 : Int) : Option (Bool) := (laws_szTaskS.f l0 1048576).bind fun t357 => (if t357 < 0 then (some true) else ((laws_toTaskS.f k l0).bind fun t358 => ((spec_Fleet.f k t358 a1).bind fun t361 => ((laws_toTaskS.f k l0).bind fun t362 => ((impl_Fleet.f k t362 a1).bind fun t365 => (if t365 = t361 then ((laws_toTaskS.f k l0).bind fun t366 => ((laws_eqTaskS.f k t362 t366).bind fun t369 => (if t369 = true then (some true) else (some false)))) else (some false)))))))
def laws_eqIntS.l0 : Nat → List Int → List Int → Int → Option (Bool)
  | 0, _, _, _ => none
  | k + 1, x0, x1, x5 => if x5 < (x0.length : Int) then (if 0 ≤ x5 then (if x5 < (x1.length : Int) then (if (rd x0 x5) = (rd x1 x5) then (laws_eqIntS.l0 k x0 x1 (wrap64 (x5 + 1))) else (some false)) else (none)) else (none)) else (some true)
def laws_eqIntS.f (k : Nat) (l0 : List Int) (l1 : List Int) : Option (Bool) := if (l0.length : Int) = (l1.length : Int) then (laws_eqIntS.l0 k l0 l1 0) else (some false)
def laws_markTaskS.l0 : Nat → List (S25) → Int → Int → Option (Int × (List (S25)))
  | 0, _, _, _ => none
  | k + 1, x0, x1, x5 => if x5 < (x0.length : Int) then (if 0 ≤ x5 then ((some (x0.set (x5 : Int).toNat (⟨x1, (rd_T25 x0 x5).f1, (rd_T25 x0 x5).f2, (rd_T25 x0 x5).f3, (rd_T25 x0 x5).f4⟩ : S25) : List (S25))).bind fun y372 => ((some (y372.set (x5 : Int).toNat (⟨(rd_T25 y372 x5).f0, wrap64 (x1 + 1), (rd_T25 y372 x5).f2, (rd_T25 y372 x5).f3, (rd_T25 y372 x5).f4⟩ : S25) : List (S25))).bind fun y373 => ((some (y373.set (x5 : Int).toNat (⟨(rd_T25 y373 x5).f0, (rd_T25 y373 x5).f1, wrap64 ((wrap64 (x1 + 1)) + 1), (rd_T25 y373 x5).f3, (rd_T25 y373 x5).f4⟩ : S25) : List (S25))).bind fun y374 => ((some (y374.set (x5 : Int).toNat (⟨(rd_T25 y374 x5).f0, (rd_T25 y374 x5).f1, (rd_T25 y374 x5).f2, wrap64 ((wrap64 ((wrap64 (x1 + 1)) + 1)) + 1), (rd_T25 y374 x5).f4⟩ : S25) : List (S25))).bind fun y375 => (laws_markTaskS.l0 k (y375.set (x5 : Int).toNat (⟨(rd_T25 y375 x5).f0, (rd_T25 y375 x5).f1, (rd_T25 y375 x5).f2, (rd_T25 y375 x5).f3, wrap64 ((wrap64 ((wrap64 ((wrap64 (x1 + 1)) + 1)) + 1)) + 1)⟩ : S25)) (wrap64 ((wrap64 ((wrap64 ((wrap64 ((wrap64 (x1 + 1)) + 1)) + 1)) + 1)) + 1)) (wrap64 (x5 + 1))))))) else (none)) else (some (x1, x0))
def laws_markTaskS.f (k : Nat) (l0 : List (S25)) (a1 : Int) : Option (Int × (List (S25))) := laws_markTaskS.l0 k l0 a1 0
def laws_markIntS.l0 : Nat → List Int → Int → Int → Option (Int × List Int)
  | 0, _, _, _ => none
  | k + 1, x0, x1, x5 => if x5 < (x0.length : Int) then (if 0 ≤ x5 then (laws_markIntS.l0 k (x0.set (x5 : Int).toNat x1) (wrap64 (x1 + 1)) (wrap64 (x5 + 1))) else (none)) else (some (x1, x0))
def laws_markIntS.f (k : Nat) (l0 : List Int) (a1 : Int) : Option (Int × List Int) := laws_markIntS.l0 k l0 a1 0
def laws_heldIntS.l0 : Nat → List Int → Int → Int → Option (Int)
  | 0, _, _, _ => none
  | k + 1, x0, x1, x5 => if x5 < (x0.length : Int) then (if 0 ≤ x5 then (if (rd x0 x5) = x1 then (laws_heldIntS.l0 k x0 (wrap64 (x1 + 1)) (wrap64 (x5 + 1))) else (some (-1))) else (none)) else (some x1)
def laws_heldIntS.f (k : Nat) (l0 : List Int) (a1 : Int) : Option (Int) := laws_heldIntS.l0 k l0 a1 0
def spec_l16Units.l0 : Nat → List Int → Int → Int → Option (Int)
  | 0, _, _, _ => none
  | k + 1, x0, x3, x4 => if x4 < (x0.length : Int) then (if 0 ≤ x4 then (if (rd x0 x4) ≥ x3 then (spec_l16Units.l0 k x0 (wrap64 ((rd x0 x4) + 1)) (wrap64 (x4 + 1))) else (spec_l16Units.l0 k x0 x3 (wrap64 (x4 + 1)))) else (none)) else (some x3)
def spec_l16Units.f (k : Nat) (l0 : List Int) : Option (Int) := spec_l16Units.l0 k l0 0 0
mutual
def spec_Mileage.l0 : Nat → List (S25) → List Int → List Int → Int → Option (List Int)
  | 0, _, _, _, _ => none
  | k + 1, x0, x5, x6, x7 => (spec_l16Units.f k x5).bind fun t387 => (if x7 < t387 then (spec_Mileage.l1 k x0 x5 x6 x7 0 0) else (some x6))
def spec_Mileage.l1 : Nat → List (S25) → List Int → List Int → Int → Int → Int → Option (List Int)
  | 0, _, _, _, _, _, _ => none
  | k + 1, x0, x5, x6, x7, x8, x9 => if x9 < (x5.length : Int) then (if 0 ≤ x9 then (if (rd x5 x9) = x7 then (if x9 < (x0.length : Int) then (spec_Mileage.l1 k x0 x5 x6 x7 (wrap64 (x8 + ((rd_T25 x0 x9).f4))) (wrap64 (x9 + 1))) else (none)) else (spec_Mileage.l1 k x0 x5 x6 x7 x8 (wrap64 (x9 + 1)))) else (none)) else (if x6.length < 17592186044416 then (spec_Mileage.l0 k x0 x5 (x6 ++ [x8]) (wrap64 (x7 + 1))) else (none))
end
def spec_Mileage.f (k : Nat) (l0 : List (S25)) (a1 : Int) : Option (List Int) := (spec_Chains.f k l0 a1).bind fun t381 => (spec_Mileage.l0 k l0 t381 (([] : List Int)) 0)
def laws_FnExactMileage.j0 : Nat → List (S23) → Int → List Int → List Int → Bool → Option (Bool)
  | 0, _, _, _, _, _ => none
  | k + 1, x0, x1, x6, x8, x46 => if x46 = true then (some false) else ((laws_markIntS.f k x8 1).bind fun bt414 => ((laws_heldIntS.f k bt414.2 1).bind fun t416 => (if t416 < 0 then (some false) else (if t416 = bt414.1 then ((laws_toTaskS.f k x0).bind fun t417 => ((impl_Mileage.f k t417 x1).bind fun t420 => ((laws_eqIntS.f k t420 x6).bind fun t423 => (if t423 = true then ((laws_heldIntS.f k bt414.2 1).bind fun t424 => (if t424 < 0 then (some false) else (if t424 = bt414.1 then (some true) else (some false)))) else (some false))))) else (some false)))))
def laws_FnExactMileage.f (k : Nat) (l0 : List (S23)) (a1 : Int) : Option (Bool) := (laws_szTaskS.f l0 1048576).bind fun t393 => (if t393 < 0 then (some true) else ((laws_toTaskS.f k l0).bind fun t394 => ((spec_Mileage.f k t394 a1).bind fun t397 => ((laws_toTaskS.f k l0).bind fun t400 => ((impl_Mileage.f k t400 a1).bind fun t403 => ((laws_eqIntS.f k t403 t397).bind fun t406 => (if t406 = true then ((laws_toTaskS.f k l0).bind fun t407 => ((laws_eqTaskS.f k t400 t407).bind fun t410 => (if t410 = true then ((laws_markTaskS.f k t400 1).bind fun bt411 => (if bt411.1 < 0 then (laws_FnExactMileage.j0 k l0 a1 t397 t403 true) else ((laws_eqIntS.f k t403 t397).bind fun t413 => (laws_FnExactMileage.j0 k l0 a1 t397 t403 (!t413))))) else (some false)))) else (some false))))))))
mutual
def spec_Night.l0 : Nat → List (S25) → List Int → List Int → List Int → Int → Option (List Int)
  | 0, _, _, _, _, _ => none
  | k + 1, x0, x5, x6, x7, x8 => (spec_l16Units.f k x5).bind fun t434 => (if x8 < t434 then (spec_Night.l1 k x0 x5 x6 x7 x8 0 0) else (some x6))
def spec_Night.l1 : Nat → List (S25) → List Int → List Int → List Int → Int → Int → Int → Option (List Int)
  | 0, _, _, _, _, _, _, _ => none
  | k + 1, x0, x5, x6, x7, x8, x9, x10 => if x10 < (x7.length : Int) then (if 0 ≤ x10 then (if 0 ≤ (rd x7 x10) then (if (rd x7 x10) < (x5.length : Int) then (if (rd x5 (rd x7 x10)) = x8 then (if (rd x7 x10) < (x0.length : Int) then (spec_Night.l1 k x0 x5 x6 x7 x8 ((rd_T25 x0 (rd x7 x10)).f1) (wrap64 (x10 + 1))) else (none)) else (spec_Night.l1 k x0 x5 x6 x7 x8 x9 (wrap64 (x10 + 1)))) else (none)) else (none)) else (none)) else (if x6.length < 17592186044416 then (spec_Night.l0 k x0 x5 (x6 ++ [x9]) x7 (wrap64 (x8 + 1))) else (none))
end
def spec_Night.f (k : Nat) (l0 : List (S25)) (a1 : Int) : Option (List Int) := (spec_Chains.f k l0 a1).bind fun t425 => (if (t425.length : Int) = 0 then (some ([] : List Int)) else ((spec_l16Order.f k l0).bind fun t431 => (spec_Night.l0 k l0 t425 (([] : List Int)) t431 0)))
def laws_FnExactNight.j0 : Nat → List (S23) → Int → List Int → List Int → Bool → Option (Bool)
  | 0, _, _, _, _, _ => none
  | k + 1, x0, x1, x6, x8, x46 => if x46 = true then (some false) else ((laws_markIntS.f k x8 1).bind fun bt463 => ((laws_heldIntS.f k bt463.2 1).bind fun t465 => (if t465 < 0 then (some false) else (if t465 = bt463.1 then ((laws_toTaskS.f k x0).bind fun t466 => ((impl_Night.f k t466 x1).bind fun t469 => ((laws_eqIntS.f k t469 x6).bind fun t472 => (if t472 = true then ((laws_heldIntS.f k bt463.2 1).bind fun t473 => (if t473 < 0 then (some false) else (if t473 = bt463.1 then (some true) else (some false)))) else (some false))))) else (some false)))))
def laws_FnExactNight.f (k : Nat) (l0 : List (S23)) (a1 : Int) : Option (Bool) := (laws_szTaskS.f l0 1048576).bind fun t442 => (if t442 < 0 then (some true) else ((laws_toTaskS.f k l0).bind fun t443 => ((spec_Night.f k t443 a1).bind fun t446 => ((laws_toTaskS.f k l0).bind fun t449 => ((impl_Night.f k t449 a1).bind fun t452 => ((laws_eqIntS.f k t452 t446).bind fun t455 => (if t455 = true then ((laws_toTaskS.f k l0).bind fun t456 => ((laws_eqTaskS.f k t449 t456).bind fun t459 => (if t459 = true then ((laws_markTaskS.f k t449 1).bind fun bt460 => (if bt460.1 < 0 then (laws_FnExactNight.j0 k l0 a1 t446 t452 true) else ((laws_eqIntS.f k t452 t446).bind fun t462 => (laws_FnExactNight.j0 k l0 a1 t446 t452 (!t462))))) else (some false)))) else (some false))))))))
mutual
def spec_ChainOk.j0 : Nat → List (S25) → Int → List Int → Bool → Option (Bool)
  | 0, _, _, _, _ => none
  | k + 1, x0, x1, x2, x25 => if x25 = true then (some false) else ((spec_l16Order.f k x0).bind fun t476 => (spec_ChainOk.l0 k x0 x1 x2 t476 0))
def spec_ChainOk.l0 : Nat → List (S25) → Int → List Int → List Int → Int → Option (Bool)
  | 0, _, _, _, _, _ => none
  | k + 1, x0, x1, x2, x7, x8 => if x8 < (x7.length : Int) then (if 0 ≤ x8 then (if 0 ≤ (rd x7 x8) then (if (rd x7 x8) < (x2.length : Int) then ((spec_l01In.f (rd x2 (rd x7 x8)) 0 39).bind fun t481 => (if t481 = true then (spec_ChainOk.l1 k x0 x1 x2 x7 x8 (-1) 0) else (some false))) else (none)) else (none)) else (none)) else (some true)
def spec_ChainOk.l1 : Nat → List (S25) → Int → List Int → List Int → Int → Int → Int → Option (Bool)
  | 0, _, _, _, _, _, _, _ => none
  | k + 1, x0, x1, x2, x7, x8, x9, x10 => if x10 < x8 then (if 0 ≤ x10 then (if x10 < (x7.length : Int) then (if 0 ≤ (rd x7 x10) then (if (rd x7 x10) < (x2.length : Int) then (if 0 ≤ x8 then (if x8 < (x7.length : Int) then (if 0 ≤ (rd x7 x8) then (if (rd x7 x8) < (x2.length : Int) then (if (rd x2 (rd x7 x10)) = (rd x2 (rd x7 x8)) then (spec_ChainOk.l1 k x0 x1 x2 x7 x8 (rd x7 x10) (wrap64 (x10 + 1))) else (spec_ChainOk.l1 k x0 x1 x2 x7 x8 x9 (wrap64 (x10 + 1)))) else (none)) else (none)) else (none)) else (none)) else (none)) else (none)) else (none)) else (none)) else (if x9 ≥ 0 then (if 0 ≤ x9 then (if x9 < (x0.length : Int) then (if 0 ≤ x8 then (if x8 < (x7.length : Int) then (if 0 ≤ (rd x7 x8) then (if (rd x7 x8) < (x0.length : Int) then ((spec_Follows.f ((rd_T25 x0 x9).f0) ((rd_T25 x0 x9).f1) ((rd_T25 x0 x9).f2) ((rd_T25 x0 x9).f3) ((rd_T25 x0 x9).f4) ((rd_T25 x0 (rd x7 x8)).f0) ((rd_T25 x0 (rd x7 x8)).f1) ((rd_T25 x0 (rd x7 x8)).f2) ((rd_T25 x0 (rd x7 x8)).f3) ((rd_T25 x0 (rd x7 x8)).f4) x1).bind fun t490 => (if t490 = true then (spec_ChainOk.l0 k x0 x1 x2 x7 (wrap64 (x8 + 1))) else (some false))) else (none)) else (none)) else (none)) else (none)) else (none)) else (none)) else (spec_ChainOk.l0 k x0 x1 x2 x7 (wrap64 (x8 + 1))))
end
def spec_ChainOk.f (k : Nat) (l0 : List (S25)) (a1 : Int) (l2 : List Int) : Option (Bool) := (spec_TasksOk.f k l0).bind fun t474 => (if t474 = true then ((spec_l16Turn.f a1).bind fun t475 => (if t475 = true then (spec_ChainOk.j0 k l0 a1 l2 ((l2.length : Int) != (l0.length : Int))) else (spec_ChainOk.j0 k l0 a1 l2 true))) else (spec_ChainOk.j0 k l0 a1 l2 true))
def laws_toIntS.l0 : Nat → List Int → List Int → Int → Option (List Int)
  | 0, _, _, _ => none
  | k + 1, x0, x3, x4 => if x4 < (x0.length : Int) then (if 0 ≤ x4 then (if x4 < (x3.length : Int) then (laws_toIntS.l0 k x0 (x3.set (x4 : Int).toNat (rd x0 x4)) (wrap64 (x4 + 1))) else (none)) else (none)) else (some x3)
def laws_toIntS.f (k : Nat) (l0 : List Int) : Option (List Int) := if 0 ≤ (l0.length : Int) then (if ((l0.length : Int) : Int).toNat ≤ 35184372088832 then (laws_toIntS.l0 k l0 (List.replicate ((l0.length : Int) : Int).toNat 0) 0) else (none)) else (none)
def laws_FnExactChainOk.f (k : Nat) (l0 : List (S23)) (a1 : Int) (l2 : List Int) : Option (Bool) := if (l2.length : Int) > 1048576 then (some true) else ((laws_szTaskS.f l0 1048576).bind fun t496 => (if t496 < 0 then (some true) else ((laws_toTaskS.f k l0).bind fun t497 => ((laws_toIntS.f k l2).bind fun t500 => ((spec_ChainOk.f k t497 a1 t500).bind fun t503 => ((laws_toTaskS.f k l0).bind fun t504 => ((laws_toIntS.f k l2).bind fun t507 => ((impl_ChainOk.f k t504 a1 t507).bind fun t510 => (if (t510 != t503) = true then (some false) else ((laws_toTaskS.f k l0).bind fun t511 => ((laws_eqTaskS.f k t504 t511).bind fun t514 => (if t514 = true then ((laws_toIntS.f k l2).bind fun t515 => ((laws_eqIntS.f k t507 t515).bind fun t518 => (if t518 = true then (some true) else (some false)))) else (some false)))))))))))))
end Go.Proofs.Ytoalolbifakpiaa.P

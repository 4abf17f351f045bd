/- The functions of the program as plain Lean functions, without memory and machine; written by a program of the session. -/
import Derived.Test.YtoalolbifakpiaaProg
import Derived.Test.YtoalolbifakpiaaV
namespace Go.Proofs.Ytoalolbifakpiaa.P
open Go.RowKit Go.Proofs.YtoalolbifakpiaaW.PrintWords Go.Proofs.YtoalolbifakpiaaW.PrintLast Go.Proofs.YtoalolbifakpiaaW.PrintMore
set_option linter.unusedVariables false

structure S23 where
  f0 : Int
  f1 : Int
  f2 : Int
  f3 : Int
  f4 : Int
def z23 : S23 := ⟨(0 : Int), (0 : Int), (0 : Int), (0 : Int), (0 : Int)⟩
def rd_T23 (xs : List S23) (i : Int) : S23 := xs.getD i.toNat z23
structure S25 where
  f0 : Int
  f1 : Int
  f2 : Int
  f3 : Int
  f4 : Int
def z25 : S25 := ⟨(0 : Int), (0 : Int), (0 : Int), (0 : Int), (0 : Int)⟩
def rd_T25 (xs : List S25) (i : Int) : S25 := xs.getD i.toNat z25
def rd_L3 (xs : List (List S23)) (i : Int) : (List S23) := xs.getD i.toNat ([] : List S23)
def spec_l01In.f (a0 : Int) (a1 : Int) (a2 : Int) : Option (Bool) := if a1 ≤ a0 then (some (decide (a0 ≤ a2))) else (some false)
def spec_l16Task.f (a0_0 : Int) (a0_1 : Int) (a0_2 : Int) (a0_3 : Int) (a0_4 : Int) : Option (Bool) := (spec_l01In.f a0_0 0 29).bind fun t102 => (if t102 = true then ((spec_l01In.f a0_1 0 29).bind fun t103 => (if t103 = true then ((spec_l01In.f a0_3 0 100000).bind fun t104 => (if t104 = true then ((spec_l01In.f a0_2 0 (wrap64 (a0_3 - 1))).bind fun t105 => (if t105 = true then ((spec_l01In.f a0_4 0 2000).bind fun t106 => (some t106)) else (some false))) else (some false))) else (some false))) else (some false))
def spec_l16Turn.f (a0 : Int) : Option (Bool) := (spec_l01In.f a0 0 120).bind fun t107 => (some t107)
def spec_Follows.f (a0_0 : Int) (a0_1 : Int) (a0_2 : Int) (a0_3 : Int) (a0_4 : Int) (a1_0 : Int) (a1_1 : Int) (a1_2 : Int) (a1_3 : Int) (a1_4 : Int) (a2 : Int) : Option (Bool) := (spec_l16Task.f a0_0 a0_1 a0_2 a0_3 a0_4).bind fun t110 => (if t110 = true then ((spec_l16Task.f a1_0 a1_1 a1_2 a1_3 a1_4).bind fun t111 => (if t111 = true then ((spec_l16Turn.f a2).bind fun t112 => (if t112 = true then (if a0_1 = a1_0 then (some (decide ((wrap64 (a0_3 + a2)) ≤ a1_2))) else (some false)) else (some false))) else (some false))) else (some false))
def laws_toTask.f (a0_0 : Int) (a0_1 : Int) (a0_2 : Int) (a0_3 : Int) (a0_4 : Int) : Option (Int × Int × Int × Int × Int) := some (a0_0, a0_1, a0_2, a0_3, a0_4)
def impl_between.f (a0 : Int) (a1 : Int) (a2 : Int) : Option (Bool) := if a0 ≥ a1 then (some (decide (a0 ≤ a2))) else (some false)
def impl_isMinute.f (a0 : Int) : Option (Bool) := (impl_between.f a0 0 100000).bind fun t116 => (some t116)
def impl_taskOk.f (a0_0 : Int) (a0_1 : Int) (a0_2 : Int) (a0_3 : Int) (a0_4 : Int) : Option (Bool) := (impl_between.f a0_0 0 29).bind fun t118 => (if t118 = true then ((impl_between.f a0_1 0 29).bind fun t119 => (if t119 = true then ((impl_isMinute.f a0_2).bind fun t120 => (if t120 = true then ((impl_isMinute.f a0_3).bind fun t121 => (if t121 = true then (if a0_2 < a0_3 then ((impl_between.f a0_4 0 2000).bind fun t122 => (some t122)) else (some false)) else (some false))) else (some false))) else (some false))) else (some false))
def impl_turnOk.f (a0 : Int) : Option (Bool) := (impl_between.f a0 0 120).bind fun t123 => (some t123)
def impl_follows.f (a0_0 : Int) (a0_1 : Int) (a0_2 : Int) (a0_3 : Int) (a0_4 : Int) (a1_0 : Int) (a1_1 : Int) (a1_2 : Int) (a1_3 : Int) (a1_4 : Int) (a2 : Int) : Option (Bool) := if a0_1 = a1_0 then (some (decide ((wrap64 (a0_3 + a2)) ≤ a1_2))) else (some false)
def impl_Follows.f (a0_0 : Int) (a0_1 : Int) (a0_2 : Int) (a0_3 : Int) (a0_4 : Int) (a1_0 : Int) (a1_1 : Int) (a1_2 : Int) (a1_3 : Int) (a1_4 : Int) (a2 : Int) : Option (Bool) := (impl_taskOk.f a0_0 a0_1 a0_2 a0_3 a0_4).bind fun t128 => (if t128 = true then ((impl_taskOk.f a1_0 a1_1 a1_2 a1_3 a1_4).bind fun t129 => (if t129 = true then ((impl_turnOk.f a2).bind fun t130 => (if t130 = true then ((impl_follows.f a0_0 a0_1 a0_2 a0_3 a0_4 a1_0 a1_1 a1_2 a1_3 a1_4 a2).bind fun t131 => (some t131)) else (some false))) else (some false))) else (some false))
def laws_FnExactFollows.f (a0_0 : Int) (a0_1 : Int) (a0_2 : Int) (a0_3 : Int) (a0_4 : Int) (a1_0 : Int) (a1_1 : Int) (a1_2 : Int) (a1_3 : Int) (a1_4 : Int) (a2 : Int) : Option (Bool) := (laws_toTask.f a0_0 a0_1 a0_2 a0_3 a0_4).bind fun bt134 => ((laws_toTask.f a1_0 a1_1 a1_2 a1_3 a1_4).bind fun bt139 => ((spec_Follows.f bt134.1 bt134.2.1 bt134.2.2.1 bt134.2.2.2.1 bt134.2.2.2.2 bt139.1 bt139.2.1 bt139.2.2.1 bt139.2.2.2.1 bt139.2.2.2.2 a2).bind fun t144 => ((laws_toTask.f a0_0 a0_1 a0_2 a0_3 a0_4).bind fun bt145 => ((laws_toTask.f a1_0 a1_1 a1_2 a1_3 a1_4).bind fun bt150 => ((impl_Follows.f bt145.1 bt145.2.1 bt145.2.2.1 bt145.2.2.2.1 bt145.2.2.2.2 bt150.1 bt150.2.1 bt150.2.2.1 bt150.2.2.2.1 bt150.2.2.2.2 a2).bind fun t155 => (if (t155 != t144) = true then (some false) else (some true)))))))
def laws_szTaskS.f (l0 : List (S23)) (a1 : Int) : Option (Int) := if (wrap64 (a1 - (l0.length : Int))) < 0 then (some (-1)) else (some (wrap64 (a1 - (l0.length : Int))))
def spec_TasksOk.l0 : Nat → List (S25) → Int → Option (Bool)
  | 0, _, _ => none
  | k + 1, x0, x3 => if x3 < (x0.length : Int) then (if 0 ≤ x3 then ((spec_l16Task.f ((rd_T25 x0 x3).f0) ((rd_T25 x0 x3).f1) ((rd_T25 x0 x3).f2) ((rd_T25 x0 x3).f3) ((rd_T25 x0 x3).f4)).bind fun t157 => (if t157 = true then (spec_TasksOk.l0 k x0 (wrap64 (x3 + 1))) else (some false))) else (none)) else (some (decide ((x0.length : Int) ≤ 40)))
def spec_TasksOk.f (k : Nat) (l0 : List (S25)) : Option (Bool) := spec_TasksOk.l0 k l0 0
def laws_toTaskS.l0 : Nat → List (S23) → List (S25) → Int → Option ((List (S25)))
  | 0, _, _, _ => none
  | k + 1, x0, x3, x4 => if x4 < (x0.length : Int) then (if 0 ≤ x4 then ((laws_toTask.f ((rd_T23 x0 x4).f0) ((rd_T23 x0 x4).f1) ((rd_T23 x0 x4).f2) ((rd_T23 x0 x4).f3) ((rd_T23 x0 x4).f4)).bind fun bt162 => (if x4 < (x3.length : Int) then (laws_toTaskS.l0 k x0 (x3.set (x4 : Int).toNat (⟨bt162.1, bt162.2.1, bt162.2.2.1, bt162.2.2.2.1, bt162.2.2.2.2⟩ : S25)) (wrap64 (x4 + 1))) else (none))) else (none)) else (some x3)
def laws_toTaskS.f (k : Nat) (l0 : List (S23)) : Option ((List (S25))) := if 0 ≤ (l0.length : Int) then (if ((l0.length : Int) : Int).toNat ≤ 7036874417766 then (laws_toTaskS.l0 k l0 (List.replicate ((l0.length : Int) : Int).toNat z25) 0) else (none)) else (none)
def impl_TasksOk.l0 : Nat → List (S25) → Int → Int → Option (Bool)
  | 0, _, _, _ => none
  | k + 1, x8, x9, x10 => if x10 < x9 then (if 0 ≤ x10 then (if x10 < (x8.length : Int) then ((impl_taskOk.f ((rd_T25 x8 x10).f0) ((rd_T25 x8 x10).f1) ((rd_T25 x8 x10).f2) ((rd_T25 x8 x10).f3) ((rd_T25 x8 x10).f4)).bind fun t170 => (if t170 = true then (impl_TasksOk.l0 k x8 x9 (wrap64 (x10 + 1))) else (some false))) else (none)) else (none)) else (some true)
def impl_TasksOk.f (k : Nat) (l0 : List (S25)) : Option (Bool) := if (l0.length : Int) > 40 then (some false) else (impl_TasksOk.l0 k l0 (l0.length : Int) 0)
def laws_eqTask.f (a0_0 : Int) (a0_1 : Int) (a0_2 : Int) (a0_3 : Int) (a0_4 : Int) (a1_0 : Int) (a1_1 : Int) (a1_2 : Int) (a1_3 : Int) (a1_4 : Int) : Option (Bool) := if a0_0 = a1_0 then (if a0_1 = a1_1 then (if a0_2 = a1_2 then (if a0_3 = a1_3 then (if a0_4 = a1_4 then (some true) else (some false)) else (some false)) else (some false)) else (some false)) else (some false)
def laws_eqTaskS.l0 : Nat → List (S25) → List (S25) → Int → Option (Bool)
  | 0, _, _, _ => none
  | k + 1, x0, x1, x5 => if x5 < (x0.length : Int) then (if 0 ≤ x5 then (if x5 < (x1.length : Int) then ((laws_eqTask.f ((rd_T25 x0 x5).f0) ((rd_T25 x0 x5).f1) ((rd_T25 x0 x5).f2) ((rd_T25 x0 x5).f3) ((rd_T25 x0 x5).f4) ((rd_T25 x1 x5).f0) ((rd_T25 x1 x5).f1) ((rd_T25 x1 x5).f2) ((rd_T25 x1 x5).f3) ((rd_T25 x1 x5).f4)).bind fun t175 => (if t175 = true then (laws_eqTaskS.l0 k x0 x1 (wrap64 (x5 + 1))) else (some false))) else (none)) else (none)) else (some true)
def laws_eqTaskS.f (k : Nat) (l0 : List (S25)) (l1 : List (S25)) : Option (Bool) := if (l0.length : Int) = (l1.length : Int) then (laws_eqTaskS.l0 k l0 l1 0) else (some false)
def laws_FnExactTasksOk.f (k : Nat) (l0 : List (S23)) : Option (Bool) := (laws_szTaskS.f l0 1048576).bind fun t176 => (if t176 < 0 then (some true) else ((laws_toTaskS.f k l0).bind fun t177 => ((spec_TasksOk.f k t177).bind fun t180 => ((laws_toTaskS.f k l0).bind fun t181 => ((impl_TasksOk.f k t181).bind fun t184 => (if (t184 != t180) = true then (some false) else ((laws_toTaskS.f k l0).bind fun t185 => ((laws_eqTaskS.f k t181 t185).bind fun t188 => (if t188 = true then (some true) else (some false))))))))))
def laws_big.f (l0 : List Int) : Option (Bool) := some (decide ((l0.length : Int) > 1048576))
def spec_l01New.l0 : Nat → List Int → Int → Int → Option (List Int × Int × Int)
  | 0, _, _, _ => none
  | k + 1, x0, x3, x4 => if x4 < (x0.length : Int) then (if x4 < 4000 then (if 0 ≤ x4 then (spec_l01New.l0 k x0 (Go.bits .and .i64 (wrap64 ((wrap64 ((wrap64 (x3 * 137)) + (wrap64 (rd x0 x4)))) + 11)) 1073741823) (wrap64 (x4 + 1))) else (none)) else (some (x0, 0, x3))) else (some (x0, 0, x3))
def spec_l01New.f (k : Nat) (l0 : List Int) : Option (List Int × Int × Int) := spec_l01New.l0 k l0 (wrap64 (75075 + (l0.length : Int))) 0
def spec_l01Byte.f (s0_0 : List Int) (s0_1 : Int) (s0_2 : Int) : Option (Int × Int × Int) := if s0_1 < (s0_0.length : Int) then (if 0 ≤ s0_1 then (some (Go.bits .and .i64 (wrap64 ((Go.bits .and .i64 (Go.bits .xor .i64 ((wrap64 ((wrap64 (s0_2 * 6364136223846793005)) + 1442695040888963407)) / 8589934592) ((wrap64 ((wrap64 (s0_2 * 6364136223846793005)) + 1442695040888963407)) / 35184372088832)) 255) + (wrap64 (rd s0_0 s0_1)))) 255, wrap64 (s0_1 + 1), wrap64 ((wrap64 (s0_2 * 6364136223846793005)) + 1442695040888963407))) else (none)) else (some (Go.bits .and .i64 (Go.bits .xor .i64 ((wrap64 ((wrap64 (s0_2 * 6364136223846793005)) + 1442695040888963407)) / 8589934592) ((wrap64 ((wrap64 (s0_2 * 6364136223846793005)) + 1442695040888963407)) / 35184372088832)) 255, s0_1, wrap64 ((wrap64 (s0_2 * 6364136223846793005)) + 1442695040888963407)))
def spec_l01Below.f (s0_0 : List Int) (s0_1 : Int) (s0_2 : Int) (a1 : Int) : Option (Int × Int × Int) := if a1 ≤ 0 then (some (0, s0_1, s0_2)) else (if a1 ≤ 256 then ((spec_l01Byte.f s0_0 s0_1 s0_2).bind fun bt193 => (if a1 = 0 then (none) else (some (Int.tmod bt193.1 a1, bt193.2.1, bt193.2.2)))) else ((spec_l01Byte.f s0_0 s0_1 s0_2).bind fun bt196 => ((spec_l01Byte.f s0_0 bt196.2.1 bt196.2.2).bind fun bt199 => ((spec_l01Byte.f s0_0 bt199.2.1 bt199.2.2).bind fun bt202 => (if a1 = 0 then (none) else (some (Int.tmod (wrap64 ((wrap64 ((wrap64 (bt196.1 * 65536)) + (wrap64 (bt199.1 * 256)))) + bt202.1)) a1, bt202.2.1, bt202.2.2)))))))
def spec_l01Size.f (l0 : List Int) (a1 : Int) : Option (Int) := if (wrap64 (2 + (wrap64 ((l0.length : Int) / 16)))) > a1 then (some a1) else (some (wrap64 (2 + (wrap64 ((l0.length : Int) / 16)))))
def spec_l01Once.f (s0_0 : List Int) (s0_1 : Int) (s0_2 : Int) (a1 : Int) : Option (Bool × Int × Int) := (spec_l01Below.f s0_0 s0_1 s0_2 a1).bind fun bt205 => (some ((bt205.1 == 0), bt205.2.1, bt205.2.2))
def spec_l16DrawRight.l0 : Nat → List (S25) → Int → List Int → Int → Int → Option ((List (S25)) × Int × Int)
  | 0, _, _, _, _, _ => none
  | k + 1, x7, x8, x1000, x1001, x1002 => if x8 > 0 then ((spec_l01Below.f x1000 x1001 x1002 300).bind fun bt215 => ((spec_l01Below.f x1000 bt215.2.1 bt215.2.2 3).bind fun bt218 => ((spec_l01Below.f x1000 bt218.2.1 bt218.2.2 3).bind fun bt221 => ((spec_l01Below.f x1000 bt221.2.1 bt221.2.2 50).bind fun bt224 => ((spec_l01Below.f x1000 bt224.2.1 bt224.2.2 90).bind fun bt227 => (if (x7.length : Int) > 0 then ((spec_l01Once.f x1000 bt227.2.1 bt227.2.2 3).bind fun bt231 => (if bt231.1 = true then (if x7.length < 3518437208883 then (spec_l16DrawRight.l0 k (x7 ++ [(⟨bt218.1, bt221.1, bt215.1, wrap64 ((wrap64 (bt215.1 + 1)) + bt224.1), bt227.1⟩ : S25)]) (wrap64 (x8 - 1)) x1000 bt231.2.1 bt231.2.2) else (none)) else ((spec_l01Below.f x1000 bt231.2.1 bt231.2.2 (x7.length : Int)).bind fun bt237 => (if 0 ≤ bt237.1 then (if bt237.1 < (x7.length : Int) then (if x7.length < 3518437208883 then (spec_l16DrawRight.l0 k (x7 ++ [(⟨(rd_T25 x7 bt237.1).f1, bt221.1, bt215.1, wrap64 ((wrap64 (bt215.1 + 1)) + bt224.1), bt227.1⟩ : S25)]) (wrap64 (x8 - 1)) x1000 bt237.2.1 bt237.2.2) else (none)) else (none)) else (none))))) else (if x7.length < 3518437208883 then (spec_l16DrawRight.l0 k (x7 ++ [(⟨bt218.1, bt221.1, bt215.1, wrap64 ((wrap64 (bt215.1 + 1)) + bt224.1), bt227.1⟩ : S25)]) (wrap64 (x8 - 1)) x1000 bt227.2.1 bt227.2.2) else (none)))))))) else (some (x7, x1001, x1002))
def spec_l16DrawRight.f (k : Nat) (s0_0 : List Int) (s0_1 : Int) (s0_2 : Int) (l1 : List Int) (a2 : Int) : Option ((List (S25)) × Int × Int) := (spec_l01Size.f l1 a2).bind fun t211 => ((spec_l01Below.f s0_0 s0_1 s0_2 (wrap64 (2 + t211))).bind fun bt212 => (spec_l16DrawRight.l0 k (([] : List (S25))) bt212.1 s0_0 bt212.2.1 bt212.2.2))
def spec_DrawRightTasks.f (k : Nat) (l0 : List Int) : Option ((List (S25)) × Int) := (spec_l01New.f k l0).bind fun bt247 => ((spec_l16DrawRight.f k bt247.1 bt247.2.1 bt247.2.2 l0 14).bind fun bt251 => ((spec_l01Below.f bt247.1 bt251.2.1 bt251.2.2 16).bind fun bt256 => (some (bt251.1, bt256.1))))
def laws_sameInts.l0 : Nat → List Int → List Int → Int → Option (Bool)
  | 0, _, _, _ => none
  | k + 1, x0, x1, x5 => if x5 < (x0.length : Int) then (if 0 ≤ x5 then (if x5 < (x1.length : Int) then (if (rd x0 x5) = (rd x1 x5) then (laws_sameInts.l0 k x0 x1 (wrap64 (x5 + 1))) else (some false)) else (none)) else (none)) else (some true)
def laws_sameInts.f (k : Nat) (l0 : List Int) (l1 : List Int) : Option (Bool) := if (l0.length : Int) = (l1.length : Int) then (laws_sameInts.l0 k l0 l1 0) else (some false)
def spec_l01Has.l0 : Nat → List Int → Int → Int → Option (Bool)
  | 0, _, _, _ => none
  | k + 1, x0, x1, x5 => if x5 < (x0.length : Int) then (if 0 ≤ x5 then (if (rd x0 x5) = x1 then (some true) else (spec_l01Has.l0 k x0 x1 (wrap64 (x5 + 1)))) else (none)) else (some false)
def spec_l01Has.f (k : Nat) (l0 : List Int) (a1 : Int) : Option (Bool) := spec_l01Has.l0 k l0 a1 0
mutual
def spec_l16Order.l0 : Nat → List (S25) → List Int → Option (List Int)
  | 0, _, _ => none
  | k + 1, x0, x3 => if (x3.length : Int) < (x0.length : Int) then (spec_l16Order.l1 k x0 x3 (-1) 0) else (some x3)
def spec_l16Order.l1 : Nat → List (S25) → List Int → Int → Int → Option (List Int)
  | 0, _, _, _, _ => none
  | k + 1, x0, x3, x4, x5 => if x5 < (x0.length : Int) then ((spec_l01Has.f k x3 x5).bind fun t275 => (if t275 = true then (spec_l16Order.l1 k x0 x3 x4 (wrap64 (x5 + 1))) else (if x4 < 0 then (spec_l16Order.l1 k x0 x3 x5 (wrap64 (x5 + 1))) else (if 0 ≤ x5 then (if 0 ≤ x4 then (if x4 < (x0.length : Int) then (if ((rd_T25 x0 x5).f2) < ((rd_T25 x0 x4).f2) then (spec_l16Order.l1 k x0 x3 x5 (wrap64 (x5 + 1))) else (spec_l16Order.l1 k x0 x3 x4 (wrap64 (x5 + 1)))) else (none)) else (none)) else (none))))) else (if x3.length < 17592186044416 then (spec_l16Order.l0 k x0 (x3 ++ [x4])) else (none))
end
def spec_l16Order.f (k : Nat) (l0 : List (S25)) : Option (List Int) := spec_l16Order.l0 k l0 (([] : List Int))
mutual
def spec_Chains.j0 : Nat → List (S25) → Int → Bool → Option (List Int)
  | 0, _, _, _ => none
  | k + 1, x0, x1, x20 => if x20 = true then (some ([] : List Int)) else (spec_Chains.l0 k x0 x1 (([] : List Int)) 0)
def spec_Chains.l0 : Nat → List (S25) → Int → List Int → Int → Option (List Int)
  | 0, _, _, _, _ => none
  | k + 1, x0, x1, x5, x6 => if x6 < (x0.length : Int) then (if x5.length < 17592186044416 then (spec_Chains.l0 k x0 x1 (x5 ++ [(-1)]) (wrap64 (x6 + 1))) else (none)) else ((spec_l16Order.f k x0).bind fun t289 => (spec_Chains.l1 k x0 x1 x5 t289 (([] : List Int)) 0))
def spec_Chains.l1 : Nat → List (S25) → Int → List Int → List Int → List Int → Int → Option (List Int)
  | 0, _, _, _, _, _, _ => none
  | k + 1, x0, x1, x5, x7, x8, x9 => if x9 < (x7.length : Int) then (if 0 ≤ x9 then (spec_Chains.l2 k x0 x1 x5 x7 x8 x9 (rd x7 x9) (-1) 0) else (none)) else (some x5)
def spec_Chains.l2 : Nat → List (S25) → Int → List Int → List Int → List Int → Int → Int → Int → Int → Option (List Int)
  | 0, _, _, _, _, _, _, _, _, _ => none
  | k + 1, x0, x1, x5, x7, x8, x9, x10, x11, x12 => if x12 < (x8.length : Int) then (if 0 ≤ x12 then (if 0 ≤ (rd x8 x12) then (if (rd x8 x12) < (x0.length : Int) then (if 0 ≤ x10 then (if x10 < (x0.length : Int) then ((spec_Follows.f ((rd_T25 x0 (rd x8 x12)).f0) ((rd_T25 x0 (rd x8 x12)).f1) ((rd_T25 x0 (rd x8 x12)).f2) ((rd_T25 x0 (rd x8 x12)).f3) ((rd_T25 x0 (rd x8 x12)).f4) ((rd_T25 x0 x10).f0) ((rd_T25 x0 x10).f1) ((rd_T25 x0 x10).f2) ((rd_T25 x0 x10).f3) ((rd_T25 x0 x10).f4) x1).bind fun t299 => (if t299 = true then (if x11 < 0 then (spec_Chains.l2 k x0 x1 x5 x7 x8 x9 x10 x12 (wrap64 (x12 + 1))) else (if 0 ≤ x11 then (if x11 < (x8.length : Int) then (if 0 ≤ (rd x8 x11) then (if (rd x8 x11) < (x0.length : Int) then (if ((rd_T25 x0 (rd x8 x12)).f3) < ((rd_T25 x0 (rd x8 x11)).f3) then (spec_Chains.l2 k x0 x1 x5 x7 x8 x9 x10 x12 (wrap64 (x12 + 1))) else (spec_Chains.l2 k x0 x1 x5 x7 x8 x9 x10 x11 (wrap64 (x12 + 1)))) else (none)) else (none)) else (none)) else (none))) else (spec_Chains.l2 k x0 x1 x5 x7 x8 x9 x10 x11 (wrap64 (x12 + 1))))) else (none)) else (none)) else (none)) else (none)) else (none)) else (if x11 < 0 then (if x8.length < 17592186044416 then ((some (x8 ++ [x10] : List Int)).bind fun y304 => (if 0 ≤ (x8.length : Int) then (if (x8.length : Int) < (y304.length : Int) then (if 0 ≤ x10 then (if x10 < (x5.length : Int) then (spec_Chains.l1 k x0 x1 (x5.set (x10 : Int).toNat (x8.length : Int)) x7 (y304.set ((x8.length : Int) : Int).toNat x10) (wrap64 (x9 + 1))) else (none)) else (none)) else (none)) else (none))) else (none)) else (if 0 ≤ x11 then (if x11 < (x8.length : Int) then (if 0 ≤ x10 then (if x10 < (x5.length : Int) then (spec_Chains.l1 k x0 x1 (x5.set (x10 : Int).toNat x11) x7 (x8.set (x11 : Int).toNat x10) (wrap64 (x9 + 1))) else (none)) else (none)) else (none)) else (none)))
end
def spec_Chains.f (k : Nat) (l0 : List (S25)) (a1 : Int) : Option (List Int) := (spec_TasksOk.f k l0).bind fun t281 => (if t281 = true then ((spec_l16Turn.f a1).bind fun t282 => (spec_Chains.j0 k l0 a1 (!t282))) else (spec_Chains.j0 k l0 a1 true))
def laws_within.l0 : Nat → List Int → Int → Int → Option (Bool)
  | 0, _, _, _ => none
  | k + 1, x0, x1, x5 => if x5 < (x0.length : Int) then (if 0 ≤ x5 then (if (rd x0 x5) = x1 then (some true) else (laws_within.l0 k x0 x1 (wrap64 (x5 + 1)))) else (none)) else (some false)
def laws_within.f (k : Nat) (l0 : List Int) (a1 : Int) : Option (Bool) := laws_within.l0 k l0 a1 0
def laws_sum.l0 : Nat → List Int → Int → Int → Option (Int)
  | 0, _, _, _ => none
  | k + 1, x0, x3, x4 => if x4 < (x0.length : Int) then (if 0 ≤ x4 then (laws_sum.l0 k x0 (wrap64 (x3 + (rd x0 x4))) (wrap64 (x4 + 1))) else (none)) else (some x3)
def laws_sum.f (k : Nat) (l0 : List Int) : Option (Int) := laws_sum.l0 k l0 0 0
mutual
def spec_Balanced.l0 : Nat → List (S25) → Int → Option (Bool)
  | 0, _, _ => none
  | k + 1, x0, x3 => if x3 < 30 then (spec_Balanced.l1 k x0 x3 0 0) else (some true)
def spec_Balanced.l1 : Nat → List (S25) → Int → Int → Int → Option (Bool)
  | 0, _, _, _, _ => none
  | k + 1, x0, x3, x4, x5 => if x5 < (x0.length : Int) then (if 0 ≤ x5 then (if ((rd_T25 x0 x5).f0) = x3 then (if ((rd_T25 x0 x5).f1) = x3 then (spec_Balanced.l1 k x0 x3 (wrap64 ((wrap64 (x4 + 1)) - 1)) (wrap64 (x5 + 1))) else (spec_Balanced.l1 k x0 x3 (wrap64 (x4 + 1)) (wrap64 (x5 + 1)))) else (if ((rd_T25 x0 x5).f1) = x3 then (spec_Balanced.l1 k x0 x3 (wrap64 (x4 - 1)) (wrap64 (x5 + 1))) else (spec_Balanced.l1 k x0 x3 x4 (wrap64 (x5 + 1))))) else (none)) else (if x4 = 0 then (spec_Balanced.l0 k x0 (wrap64 (x3 + 1))) else (some false))
end
def spec_Balanced.f (k : Nat) (l0 : List (S25)) : Option (Bool) := (spec_TasksOk.f k l0).bind fun t344 => (if t344 = true then (spec_Balanced.l0 k l0 0) else (some false))
def laws_at.f (l0 : List Int) (a1 : Int) : Option (Int) := if a1 < (l0.length : Int) then (if 0 ≤ a1 then (some (wrap64 (rd l0 a1))) else (none)) else (some (Int.tmod (wrap64 ((wrap64 (a1 * 11)) + (wrap64 ((l0.length : Int) * 3)))) 256))
mutual
def spec_l16Match.l0 : Nat → List (S25) → Int → Int → List Int → List Bool → Int → Option (Bool × List Int × List Bool)
  | 0, _, _, _, _, _, _ => none
  | k + 1, x0, x1, x2, x3, x4, x11 => if x11 < (x0.length : Int) then (if 0 ≤ x11 then (if x11 < (x4.length : Int) then (if rdOf false x4 x11 = true then (spec_l16Match.j1 k x0 x1 x2 x3 x4 x11 true) else (if 0 ≤ x2 then (if x2 < (x0.length : Int) then ((spec_Follows.f ((rd_T25 x0 x2).f0) ((rd_T25 x0 x2).f1) ((rd_T25 x0 x2).f2) ((rd_T25 x0 x2).f3) ((rd_T25 x0 x2).f4) ((rd_T25 x0 x11).f0) ((rd_T25 x0 x11).f1) ((rd_T25 x0 x11).f2) ((rd_T25 x0 x11).f3) ((rd_T25 x0 x11).f4) x1).bind fun t367 => (spec_l16Match.j1 k x0 x1 x2 x3 x4 x11 (!t367))) else (none)) else (none))) else (none)) else (none)) else (some (false, x3, x4))
def spec_l16Match.j1 : Nat → List (S25) → Int → Int → List Int → List Bool → Int → Bool → Option (Bool × List Int × List Bool)
  | 0, _, _, _, _, _, _, _ => none
  | k + 1, x0, x1, x2, x3, x4, x11, x34 => if x34 = true then (spec_l16Match.l0 k x0 x1 x2 x3 x4 (wrap64 (x11 + 1))) else (if 0 ≤ x11 then (if x11 < (x4.length : Int) then ((some (x4.set (x11 : Int).toNat true : List Bool)).bind fun y368 => (if x11 < (x3.length : Int) then (if (rd x3 x11) < 0 then (some (true, (x3.set (x11 : Int).toNat x2), y368)) else ((spec_l16Match.f k x0 x1 (rd x3 x11) x3 y368).bind fun bt372 => (if bt372.1 = true then (some (true, (bt372.2.1.set (x11 : Int).toNat x2), bt372.2.2)) else (spec_l16Match.l0 k x0 x1 x2 bt372.2.1 bt372.2.2 (wrap64 (x11 + 1)))))) else (none))) else (none)) else (none))
def spec_l16Match.f : Nat → List (S25) → Int → Int → List Int → List Bool → Option (Bool × List Int × List Bool)
  | 0, _, _, _, _, _ => none
  | k + 1, l0, a1, a2, l3, l4 => spec_l16Match.l0 k l0 a1 a2 l3 l4 0
end
mutual
def spec_Fleet.j0 : Nat → List (S25) → Int → Bool → Option (Int)
  | 0, _, _, _ => none
  | k + 1, x0, x1, x16 => if x16 = true then (some (-1)) else (spec_Fleet.l0 k x0 x1 (([] : List Int)) 0)
def spec_Fleet.l0 : Nat → List (S25) → Int → List Int → Int → Option (Int)
  | 0, _, _, _, _ => none
  | k + 1, x0, x1, x5, x6 => if x6 < (x0.length : Int) then (if x5.length < 17592186044416 then (spec_Fleet.l0 k x0 x1 (x5 ++ [(-1)]) (wrap64 (x6 + 1))) else (none)) else (spec_Fleet.l1 k x0 x1 x5 (x0.length : Int) 0)
def spec_Fleet.l1 : Nat → List (S25) → Int → List Int → Int → Int → Option (Int)
  | 0, _, _, _, _, _ => none
  | k + 1, x0, x1, x5, x7, x8 => if x8 < (x0.length : Int) then (if 0 ≤ (x0.length : Int) then (if ((x0.length : Int) : Int).toNat ≤ 281474976710656 then ((spec_l16Match.f k x0 x1 x8 x5 (List.replicate ((x0.length : Int) : Int).toNat false)).bind fun bt387 => (if bt387.1 = true then (spec_Fleet.l1 k x0 x1 bt387.2.1 (wrap64 (x7 - 1)) (wrap64 (x8 + 1))) else (spec_Fleet.l1 k x0 x1 bt387.2.1 x7 (wrap64 (x8 + 1))))) else (none)) else (none)) else (some x7)
end
def spec_Fleet.f (k : Nat) (l0 : List (S25)) (a1 : Int) : Option (Int) := (spec_TasksOk.f k l0).bind fun t376 => (if t376 = true then ((spec_l16Turn.f a1).bind fun t377 => (spec_Fleet.j0 k l0 a1 (!t377))) else (spec_Fleet.j0 k l0 a1 true))
mutual
def spec_ChainOk.j0 : Nat → List (S25) → Int → List Int → Bool → Option (Bool)
  | 0, _, _, _, _ => none
  | k + 1, x0, x1, x2, x25 => if x25 = true then (some false) else ((spec_l16Order.f k x0).bind fun t400 => (spec_ChainOk.l0 k x0 x1 x2 t400 0))
def spec_ChainOk.l0 : Nat → List (S25) → Int → List Int → List Int → Int → Option (Bool)
  | 0, _, _, _, _, _ => none
  | k + 1, x0, x1, x2, x7, x8 => if x8 < (x7.length : Int) then (if 0 ≤ x8 then (if 0 ≤ (rd x7 x8) then (if (rd x7 x8) < (x2.length : Int) then ((spec_l01In.f (rd x2 (rd x7 x8)) 0 39).bind fun t405 => (if t405 = true then (spec_ChainOk.l1 k x0 x1 x2 x7 x8 (-1) 0) else (some false))) else (none)) else (none)) else (none)) else (some true)
def spec_ChainOk.l1 : Nat → List (S25) → Int → List Int → List Int → Int → Int → Int → Option (Bool)
  | 0, _, _, _, _, _, _, _ => none
  | k + 1, x0, x1, x2, x7, x8, x9, x10 => if x10 < x8 then (if 0 ≤ x10 then (if x10 < (x7.length : Int) then (if 0 ≤ (rd x7 x10) then (if (rd x7 x10) < (x2.length : Int) then (if 0 ≤ x8 then (if x8 < (x7.length : Int) then (if 0 ≤ (rd x7 x8) then (if (rd x7 x8) < (x2.length : Int) then (if (rd x2 (rd x7 x10)) = (rd x2 (rd x7 x8)) then (spec_ChainOk.l1 k x0 x1 x2 x7 x8 (rd x7 x10) (wrap64 (x10 + 1))) else (spec_ChainOk.l1 k x0 x1 x2 x7 x8 x9 (wrap64 (x10 + 1)))) else (none)) else (none)) else (none)) else (none)) else (none)) else (none)) else (none)) else (none)) else (if x9 ≥ 0 then (if 0 ≤ x9 then (if x9 < (x0.length : Int) then (if 0 ≤ x8 then (if x8 < (x7.length : Int) then (if 0 ≤ (rd x7 x8) then (if (rd x7 x8) < (x0.length : Int) then ((spec_Follows.f ((rd_T25 x0 x9).f0) ((rd_T25 x0 x9).f1) ((rd_T25 x0 x9).f2) ((rd_T25 x0 x9).f3) ((rd_T25 x0 x9).f4) ((rd_T25 x0 (rd x7 x8)).f0) ((rd_T25 x0 (rd x7 x8)).f1) ((rd_T25 x0 (rd x7 x8)).f2) ((rd_T25 x0 (rd x7 x8)).f3) ((rd_T25 x0 (rd x7 x8)).f4) x1).bind fun t414 => (if t414 = true then (spec_ChainOk.l0 k x0 x1 x2 x7 (wrap64 (x8 + 1))) else (some false))) else (none)) else (none)) else (none)) else (none)) else (none)) else (none)) else (spec_ChainOk.l0 k x0 x1 x2 x7 (wrap64 (x8 + 1))))
end
def spec_ChainOk.f (k : Nat) (l0 : List (S25)) (a1 : Int) (l2 : List Int) : Option (Bool) := (spec_TasksOk.f k l0).bind fun t398 => (if t398 = true then ((spec_l16Turn.f a1).bind fun t399 => (if t399 = true then (spec_ChainOk.j0 k l0 a1 l2 ((l2.length : Int) != (l0.length : Int))) else (spec_ChainOk.j0 k l0 a1 l2 true))) else (spec_ChainOk.j0 k l0 a1 l2 true))
def laws_toIntS.l0 : Nat → List Int → List Int → Int → Option (List Int)
  | 0, _, _, _ => none
  | k + 1, x0, x3, x4 => if x4 < (x0.length : Int) then (if 0 ≤ x4 then (if x4 < (x3.length : Int) then (laws_toIntS.l0 k x0 (x3.set (x4 : Int).toNat (rd x0 x4)) (wrap64 (x4 + 1))) else (none)) else (none)) else (some x3)
def laws_toIntS.f (k : Nat) (l0 : List Int) : Option (List Int) := if 0 ≤ (l0.length : Int) then (if ((l0.length : Int) : Int).toNat ≤ 35184372088832 then (laws_toIntS.l0 k l0 (List.replicate ((l0.length : Int) : Int).toNat 0) 0) else (none)) else (none)
def laws_eqIntS.l0 : Nat → List Int → List Int → Int → Option (Bool)
  | 0, _, _, _ => none
  | k + 1, x0, x1, x5 => if x5 < (x0.length : Int) then (if 0 ≤ x5 then (if x5 < (x1.length : Int) then (if (rd x0 x5) = (rd x1 x5) then (laws_eqIntS.l0 k x0 x1 (wrap64 (x5 + 1))) else (some false)) else (none)) else (none)) else (some true)
def laws_eqIntS.f (k : Nat) (l0 : List Int) (l1 : List Int) : Option (Bool) := if (l0.length : Int) = (l1.length : Int) then (laws_eqIntS.l0 k l0 l1 0) else (some false)
def laws_markTaskS.l0 : Nat → List (S25) → Int → Int → Option (Int × (List (S25)))
  | 0, _, _, _ => none
  | k + 1, x0, x1, x5 => if x5 < (x0.length : Int) then (if 0 ≤ x5 then ((some (x0.set (x5 : Int).toNat (⟨x1, (rd_T25 x0 x5).f1, (rd_T25 x0 x5).f2, (rd_T25 x0 x5).f3, (rd_T25 x0 x5).f4⟩ : S25) : List (S25))).bind fun y452 => ((some (y452.set (x5 : Int).toNat (⟨(rd_T25 y452 x5).f0, wrap64 (x1 + 1), (rd_T25 y452 x5).f2, (rd_T25 y452 x5).f3, (rd_T25 y452 x5).f4⟩ : S25) : List (S25))).bind fun y453 => ((some (y453.set (x5 : Int).toNat (⟨(rd_T25 y453 x5).f0, (rd_T25 y453 x5).f1, wrap64 ((wrap64 (x1 + 1)) + 1), (rd_T25 y453 x5).f3, (rd_T25 y453 x5).f4⟩ : S25) : List (S25))).bind fun y454 => ((some (y454.set (x5 : Int).toNat (⟨(rd_T25 y454 x5).f0, (rd_T25 y454 x5).f1, (rd_T25 y454 x5).f2, wrap64 ((wrap64 ((wrap64 (x1 + 1)) + 1)) + 1), (rd_T25 y454 x5).f4⟩ : S25) : List (S25))).bind fun y455 => (laws_markTaskS.l0 k (y455.set (x5 : Int).toNat (⟨(rd_T25 y455 x5).f0, (rd_T25 y455 x5).f1, (rd_T25 y455 x5).f2, (rd_T25 y455 x5).f3, wrap64 ((wrap64 ((wrap64 ((wrap64 (x1 + 1)) + 1)) + 1)) + 1)⟩ : S25)) (wrap64 ((wrap64 ((wrap64 ((wrap64 ((wrap64 (x1 + 1)) + 1)) + 1)) + 1)) + 1)) (wrap64 (x5 + 1))))))) else (none)) else (some (x1, x0))
def laws_markTaskS.f (k : Nat) (l0 : List (S25)) (a1 : Int) : Option (Int × (List (S25))) := laws_markTaskS.l0 k l0 a1 0
def laws_markIntS.l0 : Nat → List Int → Int → Int → Option (Int × List Int)
  | 0, _, _, _ => none
  | k + 1, x0, x1, x5 => if x5 < (x0.length : Int) then (if 0 ≤ x5 then (laws_markIntS.l0 k (x0.set (x5 : Int).toNat x1) (wrap64 (x1 + 1)) (wrap64 (x5 + 1))) else (none)) else (some (x1, x0))
def laws_markIntS.f (k : Nat) (l0 : List Int) (a1 : Int) : Option (Int × List Int) := laws_markIntS.l0 k l0 a1 0
def laws_heldIntS.l0 : Nat → List Int → Int → Int → Option (Int)
  | 0, _, _, _ => none
  | k + 1, x0, x1, x5 => if x5 < (x0.length : Int) then (if 0 ≤ x5 then (if (rd x0 x5) = x1 then (laws_heldIntS.l0 k x0 (wrap64 (x1 + 1)) (wrap64 (x5 + 1))) else (some (-1))) else (none)) else (some x1)
def laws_heldIntS.f (k : Nat) (l0 : List Int) (a1 : Int) : Option (Int) := laws_heldIntS.l0 k l0 a1 0
def spec_l16Units.l0 : Nat → List Int → Int → Int → Option (Int)
  | 0, _, _, _ => none
  | k + 1, x0, x3, x4 => if x4 < (x0.length : Int) then (if 0 ≤ x4 then (if (rd x0 x4) ≥ x3 then (spec_l16Units.l0 k x0 (wrap64 ((rd x0 x4) + 1)) (wrap64 (x4 + 1))) else (spec_l16Units.l0 k x0 x3 (wrap64 (x4 + 1)))) else (none)) else (some x3)
def spec_l16Units.f (k : Nat) (l0 : List Int) : Option (Int) := spec_l16Units.l0 k l0 0 0
mutual
def spec_Mileage.l0 : Nat → List (S25) → List Int → List Int → Int → Option (List Int)
  | 0, _, _, _, _ => none
  | k + 1, x0, x5, x6, x7 => (spec_l16Units.f k x5).bind fun t477 => (if x7 < t477 then (spec_Mileage.l1 k x0 x5 x6 x7 0 0) else (some x6))
def spec_Mileage.l1 : Nat → List (S25) → List Int → List Int → Int → Int → Int → Option (List Int)
  | 0, _, _, _, _, _, _ => none
  | k + 1, x0, x5, x6, x7, x8, x9 => if x9 < (x5.length : Int) then (if 0 ≤ x9 then (if (rd x5 x9) = x7 then (if x9 < (x0.length : Int) then (spec_Mileage.l1 k x0 x5 x6 x7 (wrap64 (x8 + ((rd_T25 x0 x9).f4))) (wrap64 (x9 + 1))) else (none)) else (spec_Mileage.l1 k x0 x5 x6 x7 x8 (wrap64 (x9 + 1)))) else (none)) else (if x6.length < 17592186044416 then (spec_Mileage.l0 k x0 x5 (x6 ++ [x8]) (wrap64 (x7 + 1))) else (none))
end
def spec_Mileage.f (k : Nat) (l0 : List (S25)) (a1 : Int) : Option (List Int) := (spec_Chains.f k l0 a1).bind fun t471 => (spec_Mileage.l0 k l0 t471 (([] : List Int)) 0)
mutual
def spec_Night.l0 : Nat → List (S25) → List Int → List Int → List Int → Int → Option (List Int)
  | 0, _, _, _, _, _ => none
  | k + 1, x0, x5, x6, x7, x8 => (spec_l16Units.f k x5).bind fun t502 => (if x8 < t502 then (spec_Night.l1 k x0 x5 x6 x7 x8 0 0) else (some x6))
def spec_Night.l1 : Nat → List (S25) → List Int → List Int → List Int → Int → Int → Int → Option (List Int)
  | 0, _, _, _, _, _, _, _ => none
  | k + 1, x0, x5, x6, x7, x8, x9, x10 => if x10 < (x7.length : Int) then (if 0 ≤ x10 then (if 0 ≤ (rd x7 x10) then (if (rd x7 x10) < (x5.length : Int) then (if (rd x5 (rd x7 x10)) = x8 then (if (rd x7 x10) < (x0.length : Int) then (spec_Night.l1 k x0 x5 x6 x7 x8 ((rd_T25 x0 (rd x7 x10)).f1) (wrap64 (x10 + 1))) else (none)) else (spec_Night.l1 k x0 x5 x6 x7 x8 x9 (wrap64 (x10 + 1)))) else (none)) else (none)) else (none)) else (if x6.length < 17592186044416 then (spec_Night.l0 k x0 x5 (x6 ++ [x9]) x7 (wrap64 (x8 + 1))) else (none))
end
def spec_Night.f (k : Nat) (l0 : List (S25)) (a1 : Int) : Option (List Int) := (spec_Chains.f k l0 a1).bind fun t493 => (if (t493.length : Int) = 0 then (some ([] : List Int)) else ((spec_l16Order.f k l0).bind fun t499 => (spec_Night.l0 k l0 t493 (([] : List Int)) t499 0)))
mutual
def spec_Due.l0 : Nat → List (S25) → Int → List Int → List Int → List Int → Int → Option (List Int)
  | 0, _, _, _, _, _, _ => none
  | k + 1, x0, x2, x7, x8, x9, x10 => (spec_l16Units.f k x7).bind fun t530 => (if x10 < t530 then (spec_Due.l1 k x0 x2 x7 x8 x9 x10 0 (-1) 0) else (some x8))
def spec_Due.l1 : Nat → List (S25) → Int → List Int → List Int → List Int → Int → Int → Int → Int → Option (List Int)
  | 0, _, _, _, _, _, _, _, _, _ => none
  | k + 1, x0, x2, x7, x8, x9, x10, x11, x12, x13 => if x13 < (x9.length : Int) then (if 0 ≤ x13 then (if 0 ≤ (rd x9 x13) then (if (rd x9 x13) < (x7.length : Int) then (if (rd x7 (rd x9 x13)) = x10 then (if (rd x9 x13) < (x0.length : Int) then (if (wrap64 (x11 + ((rd_T25 x0 (rd x9 x13)).f4))) > x2 then (if x12 < 0 then (spec_Due.l1 k x0 x2 x7 x8 x9 x10 (wrap64 (x11 + ((rd_T25 x0 (rd x9 x13)).f4))) (rd x9 x13) (wrap64 (x13 + 1))) else (spec_Due.l1 k x0 x2 x7 x8 x9 x10 (wrap64 (x11 + ((rd_T25 x0 (rd x9 x13)).f4))) x12 (wrap64 (x13 + 1)))) else (spec_Due.l1 k x0 x2 x7 x8 x9 x10 (wrap64 (x11 + ((rd_T25 x0 (rd x9 x13)).f4))) x12 (wrap64 (x13 + 1)))) else (none)) else (spec_Due.l1 k x0 x2 x7 x8 x9 x10 x11 x12 (wrap64 (x13 + 1)))) else (none)) else (none)) else (none)) else (if x8.length < 17592186044416 then (spec_Due.l0 k x0 x2 x7 (x8 ++ [x12]) x9 (wrap64 (x10 + 1))) else (none))
end
def spec_Due.f (k : Nat) (l0 : List (S25)) (a1 : Int) (a2 : Int) : Option (List Int) := (spec_l01In.f a2 0 1000000).bind fun t520 => (if t520 = true then ((spec_Chains.f k l0 a1).bind fun t521 => (if (t521.length : Int) = 0 then (some ([] : List Int)) else ((spec_l16Order.f k l0).bind fun t527 => (spec_Due.l0 k l0 a2 t521 (([] : List Int)) t527 0)))) else (some ([] : List Int)))
end Go.Proofs.Ytoalolbifakpiaa.P

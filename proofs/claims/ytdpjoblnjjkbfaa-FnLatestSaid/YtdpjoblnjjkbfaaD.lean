/- The functions of the program as plain Lean functions, without memory and machine; written by a program of the session. -/
import Derived.Test.YtdpjoblnjjkbfaaProg
import Derived.Test.YtdpjoblnjjkbfaaV
namespace Go.Proofs.Ytdpjoblnjjkbfaa.P
open Go.RowKit Go.Proofs.YtdpjoblnjjkbfaaW.PrintWords Go.Proofs.YtdpjoblnjjkbfaaW.PrintLast Go.Proofs.YtdpjoblnjjkbfaaW.PrintMore
set_option linter.unusedVariables false

structure S67 where
  f0 : Int
  f1 : Int
  f2 : Int
def z67 : S67 := ⟨(0 : Int), (0 : Int), (0 : Int)⟩
def rd_T67 (xs : List S67) (i : Int) : S67 := xs.getD i.toNat z67
def rd_L3 (xs : List (List S67)) (i : Int) : (List S67) := xs.getD i.toNat ([] : List S67)
structure S51 where
  f0 : ByteArray
  f1 : (List S67)
def z51 : S51 := ⟨(⟨#[]⟩ : ByteArray), ([] : List S67)⟩
def rd_T51 (xs : List S51) (i : Int) : S51 := xs.getD i.toNat z51
structure S99 where
  f0 : Int
  f1 : Int
  f2 : Int
  f3 : Int
def z99 : S99 := ⟨(0 : Int), (0 : Int), (0 : Int), (0 : Int)⟩
def rd_T99 (xs : List S99) (i : Int) : S99 := xs.getD i.toNat z99
structure S72 where
  f0 : Int
  f1 : Int
  f2 : Int
def z72 : S72 := ⟨(0 : Int), (0 : Int), (0 : Int)⟩
def rd_T72 (xs : List S72) (i : Int) : S72 := xs.getD i.toNat z72
def impl_between.f (a0 : Int) (a1 : Int) (a2 : Int) : Option (Bool) := if a0 ≥ a1 then (some (decide (a0 ≤ a2))) else (some false)
def impl_isMinute.f (a0 : Int) : Option (Bool) := (impl_between.f a0 0 100000).bind fun t101 => (some t101)
mutual
def impl_nameOk.j0 : Nat → ByteArray → Bool → Option (Bool)
  | 0, _, _ => none
  | k + 1, x0, x11 => if x11 = true then (some false) else (impl_nameOk.l0 k x0 0)
def impl_nameOk.l0 : Nat → ByteArray → Int → Option (Bool)
  | 0, _, _ => none
  | k + 1, x0, x3 => if x3 < (x0.size : Int) then (if 0 ≤ x3 then (if (bt x0 x3) < 97 then (if (bt x0 x3) < 48 then (some false) else (if (bt x0 x3) > 57 then (some false) else (impl_nameOk.l0 k x0 (wrap64 (x3 + 1))))) else (if (bt x0 x3) > 122 then (if (bt x0 x3) < 48 then (some false) else (if (bt x0 x3) > 57 then (some false) else (impl_nameOk.l0 k x0 (wrap64 (x3 + 1))))) else (impl_nameOk.l0 k x0 (wrap64 (x3 + 1))))) else (none)) else (some true)
end
def impl_nameOk.f (k : Nat) (a0 : ByteArray) : Option (Bool) := if (a0.size : Int) < 1 then (impl_nameOk.j0 k a0 true) else (impl_nameOk.j0 k a0 (decide ((a0.size : Int) > 12)))
mutual
def impl_TripOk.j0 : Nat → Bool → ByteArray → List (S67) → Option (Bool)
  | 0, _, _, _ => none
  | k + 1, x15, x103000, x103001 => if x15 = true then (some false) else (impl_TripOk.l0 k x103001 (x103001.length : Int) 0 x103000 x103001)
def impl_TripOk.l0 : Nat → List (S67) → Int → Int → ByteArray → List (S67) → Option (Bool)
  | 0, _, _, _, _, _ => none
  | k + 1, x17, x18, x19, x103000, x103001 => if x19 < x18 then (if 0 ≤ x19 then (if x19 < (x17.length : Int) then ((impl_between.f ((rd_T67 x17 x19).f0) 0 29).bind fun t107 => (if t107 = true then ((impl_isMinute.f ((rd_T67 x17 x19).f1)).bind fun t108 => (if t108 = true then ((impl_isMinute.f ((rd_T67 x17 x19).f2)).bind fun t109 => (if t109 = true then (impl_TripOk.j2 k x19 x17 x18 x19 (decide (((rd_T67 x17 x19).f1) > ((rd_T67 x17 x19).f2))) x103000 x103001 ((rd_T67 x17 x19).f0) ((rd_T67 x17 x19).f1) ((rd_T67 x17 x19).f2)) else (impl_TripOk.j2 k x19 x17 x18 x19 true x103000 x103001 ((rd_T67 x17 x19).f0) ((rd_T67 x17 x19).f1) ((rd_T67 x17 x19).f2)))) else (impl_TripOk.j2 k x19 x17 x18 x19 true x103000 x103001 ((rd_T67 x17 x19).f0) ((rd_T67 x17 x19).f1) ((rd_T67 x17 x19).f2)))) else (impl_TripOk.j2 k x19 x17 x18 x19 true x103000 x103001 ((rd_T67 x17 x19).f0) ((rd_T67 x17 x19).f1) ((rd_T67 x17 x19).f2)))) else (none)) else (none)) else (some true)
def impl_TripOk.j2 : Nat → Int → List (S67) → Int → Int → Bool → ByteArray → List (S67) → Int → Int → Int → Option (Bool)
  | 0, _, _, _, _, _, _, _, _, _, _ => none
  | k + 1, x3, x17, x18, x19, x46, x103000, x103001, x107000, x107001, x107002 => if x46 = true then (some false) else (if x3 > 0 then (if 0 ≤ (wrap64 (x3 - 1)) then (if (wrap64 (x3 - 1)) < (x103001.length : Int) then (if x107001 ≤ ((rd_T67 x103001 (wrap64 (x3 - 1))).f2) then (some false) else (if x107000 = ((rd_T67 x103001 (wrap64 (x3 - 1))).f0) then (some false) else (impl_TripOk.l0 k x17 x18 (wrap64 (x19 + 1)) x103000 x103001))) else (none)) else (none)) else (impl_TripOk.l0 k x17 x18 (wrap64 (x19 + 1)) x103000 x103001))
end
def impl_TripOk.f (k : Nat) (a0_0 : ByteArray) (l0_1 : List (S67)) : Option (Bool) := (impl_nameOk.f k a0_0).bind fun t103 => (if t103 = true then ((impl_between.f (l0_1.length : Int) 2 12).bind fun t104 => (impl_TripOk.j0 k (!t104) a0_0 l0_1)) else (impl_TripOk.j0 k true a0_0 l0_1))
def impl_tripNamed.l0 (l0 : List S51) (a1 : ByteArray) : Int := if l0.findIdx (fun x => x.f0.toList == a1.toList) < l0.length then (l0.findIdx (fun x => x.f0.toList == a1.toList) : Int) else -1
def impl_tripNamed.f (l0 : List S51) (a1 : ByteArray) : Option Int := if l0.length ≤ 1000 then some (impl_tripNamed.l0 l0 a1) else none
def impl_TableOk.l0 : Nat → List (S51) → List (S51) → Int → Int → Option (Bool)
  | 0, _, _, _, _ => none
  | k + 1, x0, x8, x9, x10 => if x10 < x9 then (if 0 ≤ x10 then (if x10 < (x8.length : Int) then ((impl_TripOk.f k ((rd_T51 x8 x10).f0) ((rd_T51 x8 x10).f1)).bind fun t114 => (if t114 = true then (if x10 ≤ (x0.length : Int) then ((impl_tripNamed.f (x0.take (x10 : Int).toNat) ((rd_T51 x8 x10).f0)).bind fun t119 => (if t119 ≥ 0 then (some false) else (impl_TableOk.l0 k x0 x8 x9 (wrap64 (x10 + 1))))) else (none)) else (some false))) else (none)) else (none)) else (some true)
def impl_TableOk.f (k : Nat) (l0 : List (S51)) : Option (Bool) := if (l0.length : Int) > 24 then (some false) else (impl_TableOk.l0 k l0 l0 (l0.length : Int) 0)
def impl_changeOk.f (a0 : Int) : Option (Bool) := (impl_between.f a0 0 60).bind fun t120 => (some t120)
def impl_questionOk.j0 : Nat → Int → Int → Int → Bool → Option (Bool)
  | 0, _, _, _, _ => none
  | k + 1, x3, x4, x5, x25 => if x25 = true then (some false) else ((impl_isMinute.f x3).bind fun t124 => (if t124 = true then ((impl_changeOk.f x4).bind fun t125 => (if t125 = true then ((impl_between.f x5 0 5).bind fun t126 => (some t126)) else (some false))) else (some false)))
def impl_questionOk.f (k : Nat) (l0 : List (S51)) (a1 : Int) (a2 : Int) (a3 : Int) (a4 : Int) (a5 : Int) : Option (Bool) := (impl_TableOk.f k l0).bind fun t121 => (if t121 = true then ((impl_between.f a1 0 29).bind fun t122 => (if t122 = true then ((impl_between.f a2 0 29).bind fun t123 => (impl_questionOk.j0 k a3 a4 a5 (!t123))) else (impl_questionOk.j0 k a3 a4 a5 true))) else (impl_questionOk.j0 k a3 a4 a5 true))
def impl_arrivals.l0 (h : Nat) (wait : Int) (s : List Int × Bool) (c : S67) : List Int × Bool :=
  let o1 := if s.2 = true then s.1.set ((h + 1) * 30 + c.f0.toNat) (min (s.1.getD ((h + 1) * 30 + c.f0.toNat) 0) c.f1) else s.1
  (o1, s.2 || (decide (o1.getD (h * 30 + c.f0.toNat) 0 < 100001) && decide (o1.getD (h * 30 + c.f0.toNat) 0 + wait ≤ c.f2)))
def impl_arrivals.l1 (h : Nat) (wait : Int) (o : List Int) (t : S51) : List Int := (t.f1.foldl (impl_arrivals.l0 h wait) (o, false)).1
def impl_arrivals.l2 (l : List S51) (ch : Int) : Nat → List Int → List Int
  | 0, o => o
  | h + 1, o => l.foldl (impl_arrivals.l1 h (if h = 0 then 0 else ch)) (impl_arrivals.l2 l ch h o)
def impl_arrivals.l3 (l : List S51) (fr mi ch : Int) (hops : Nat) : List Int := impl_arrivals.l2 l ch hops ((List.replicate ((hops + 1) * 30) 100001).set fr.toNat mi)
def impl_arrivals.l4 (l : List S51) : Bool := decide (l.length ≤ 24) && l.all (fun t => decide (t.f1.length ≤ 12) && t.f1.all (fun c => decide (0 ≤ c.f0) && decide (c.f0 < 30) && decide (0 ≤ c.f1) && decide (c.f1 ≤ 100000) && decide (0 ≤ c.f2) && decide (c.f2 ≤ 100000)))
def impl_soonest.l0 (o : List Int) (tg : Nat) : Nat → Int × Int
  | 0 => (100001, -1)
  | h + 1 => if o.getD (h * 30 + tg) 0 < (impl_soonest.l0 o tg h).1 then (o.getD (h * 30 + tg) 0, (h : Int)) else impl_soonest.l0 o tg h
def impl_soonest.l1 (s : Int × Int) : Int × Int := if s.2 < 0 then (-1, -1) else s
def impl_soonest.l2 (l : List S51) (fr tg mi ch : Int) (hops : Nat) : Int × Int := impl_soonest.l1 (impl_soonest.l0 (impl_arrivals.l3 l fr mi ch hops) tg.toNat (hops + 1))
def impl_soonest.f (l0 : List S51) (a1 : Int) (a2 : Int) (a3 : Int) (a4 : Int) (a5 : Int) : Option (Int × Int) := if impl_arrivals.l4 l0 = true ∧ 0 ≤ a1 ∧ a1 < 30 ∧ 0 ≤ a2 ∧ a2 < 30 ∧ 0 ≤ a3 ∧ a3 ≤ 100000 ∧ 0 ≤ a4 ∧ a4 ≤ 60 ∧ 0 ≤ a5 ∧ a5 ≤ 5 then some (impl_soonest.l2 l0 a1 a2 a3 a4 a5.toNat) else none
def impl_Soonest.f (k : Nat) (l0 : List (S51)) (a1 : Int) (a2 : Int) (a3 : Int) (a4 : Int) (a5 : Int) : Option (Int) := (impl_questionOk.f k l0 a1 a2 a3 a4 a5).bind fun t127 => (if t127 = true then ((impl_soonest.f l0 a1 a2 a3 a4 a5).bind fun bt128 => (some bt128.1)) else (some (-1)))
def laws_big.f (l0 : List Int) : Option (Bool) := some (decide ((l0.length : Int) > 1048576))
def spec_l01New.l0 : Nat → List Int → Int → Int → Option (List Int × Int × Int)
  | 0, _, _, _ => none
  | k + 1, x0, x3, x4 => if x4 < (x0.length : Int) then (if x4 < 4000 then (if 0 ≤ x4 then (spec_l01New.l0 k x0 (Go.bits .and .i64 (wrap64 ((wrap64 ((wrap64 (x3 * 137)) + (wrap64 (rd x0 x4)))) + 11)) 1073741823) (wrap64 (x4 + 1))) else (none)) else (some (x0, 0, x3))) else (some (x0, 0, x3))
def spec_l01New.f (k : Nat) (l0 : List Int) : Option (List Int × Int × Int) := spec_l01New.l0 k l0 (wrap64 (75075 + (l0.length : Int))) 0
def spec_l01Byte.f (s0_0 : List Int) (s0_1 : Int) (s0_2 : Int) : Option (Int × Int × Int) := if s0_1 < (s0_0.length : Int) then (if 0 ≤ s0_1 then (some (Go.bits .and .i64 (wrap64 ((Go.bits .and .i64 (Go.bits .xor .i64 ((wrap64 ((wrap64 (s0_2 * 6364136223846793005)) + 1442695040888963407)) / 8589934592) ((wrap64 ((wrap64 (s0_2 * 6364136223846793005)) + 1442695040888963407)) / 35184372088832)) 255) + (wrap64 (rd s0_0 s0_1)))) 255, wrap64 (s0_1 + 1), wrap64 ((wrap64 (s0_2 * 6364136223846793005)) + 1442695040888963407))) else (none)) else (some (Go.bits .and .i64 (Go.bits .xor .i64 ((wrap64 ((wrap64 (s0_2 * 6364136223846793005)) + 1442695040888963407)) / 8589934592) ((wrap64 ((wrap64 (s0_2 * 6364136223846793005)) + 1442695040888963407)) / 35184372088832)) 255, s0_1, wrap64 ((wrap64 (s0_2 * 6364136223846793005)) + 1442695040888963407)))
def spec_l01Below.f (s0_0 : List Int) (s0_1 : Int) (s0_2 : Int) (a1 : Int) : Option (Int × Int × Int) := if a1 ≤ 0 then (some (0, s0_1, s0_2)) else (if a1 ≤ 256 then ((spec_l01Byte.f s0_0 s0_1 s0_2).bind fun bt134 => (if a1 = 0 then (none) else (some (Int.tmod bt134.1 a1, bt134.2.1, bt134.2.2)))) else ((spec_l01Byte.f s0_0 s0_1 s0_2).bind fun bt137 => ((spec_l01Byte.f s0_0 bt137.2.1 bt137.2.2).bind fun bt140 => ((spec_l01Byte.f s0_0 bt140.2.1 bt140.2.2).bind fun bt143 => (if a1 = 0 then (none) else (some (Int.tmod (wrap64 ((wrap64 ((wrap64 (bt137.1 * 65536)) + (wrap64 (bt140.1 * 256)))) + bt143.1)) a1, bt143.2.1, bt143.2.2)))))))
def spec_l01PickText.f (s0_0 : List Int) (s0_1 : Int) (s0_2 : Int) (l1 : List ByteArray) : Option (ByteArray × Int × Int) := (spec_l01Below.f s0_0 s0_1 s0_2 (l1.length : Int)).bind fun bt146 => (if 0 ≤ bt146.1 then (if bt146.1 < (l1.length : Int) then (some (rdOf ByteArray.empty l1 bt146.1, bt146.2.1, bt146.2.2)) else (none)) else (none))
def spec_l01Num.l0 : Nat → Int → ByteArray → Bool → Option (ByteArray)
  | 0, _, _, _ => none
  | k + 1, x0, x3, x4 => if x0 = 0 then (if x4 = true then (if 1 + x3.size ≤ 9223372036854775807 then (some ((⟨#[45]⟩ : ByteArray) ++ x3)) else (none)) else (some x3)) else (if (Int.tmod x0 10) < 0 then ((some (([(wrap64 (48 + (wrap64 (-(Int.tmod x0 10))))) % 256] : List Int) : List Int)).bind fun y150 => (if (strOfNums y150).size + x3.size ≤ 9223372036854775807 then (spec_l01Num.l0 k (wrap64 (Int.tdiv x0 10)) ((strOfNums y150) ++ x3) x4) else (none))) else ((some (([(wrap64 (48 + (Int.tmod x0 10))) % 256] : List Int) : List Int)).bind fun y153 => (if (strOfNums y153).size + x3.size ≤ 9223372036854775807 then (spec_l01Num.l0 k (wrap64 (Int.tdiv x0 10)) ((strOfNums y153) ++ x3) x4) else (none))))
def spec_l01Num.f (k : Nat) (a0 : Int) : Option (ByteArray) := if a0 = 0 then (some (⟨#[48]⟩ : ByteArray)) else (spec_l01Num.l0 k a0 (⟨#[]⟩ : ByteArray) (decide (a0 < 0)))
def spec_l08DrawName.f (k : Nat) (s0_0 : List Int) (s0_1 : Int) (s0_2 : Int) : Option (ByteArray × Int × Int) := (spec_l01PickText.f s0_0 s0_1 s0_2 (([(⟨#[97]⟩ : ByteArray), (⟨#[105, 99]⟩ : ByteArray), (⟨#[114, 101]⟩ : ByteArray), (⟨#[115]⟩ : ByteArray), (⟨#[120]⟩ : ByteArray)] : List ByteArray))).bind fun bt159 => ((spec_l01Below.f s0_0 bt159.2.1 bt159.2.2 90).bind fun bt162 => ((spec_l01Num.f k bt162.1).bind fun t165 => (if bt159.1.size + t165.size ≤ 9223372036854775807 then (some (bt159.1 ++ t165, bt162.2.1, bt162.2.2)) else (none))))
def spec_l02Other.f (a0_0 : Int) (a0_1 : Int) (a0_2 : Int) (a0_3 : Int) (a1 : Int) : Option (Int) := if a0_0 = a1 then (some a0_1) else (if a0_1 = a1 then (some a0_0) else (some (-1)))
mutual
def spec_l02DrawWay.l0 : Nat → Int → List Int → Int → Int → List Int → Int → Int → Int → List (S99) → Option (List Int × Int × Int)
  | 0, _, _, _, _, _, _, _, _, _ => none
  | k + 1, x3, x9, x10, x11, x1000, x1001, x1002, x168000, x168001 => if x11 < x3 then ((spec_l01Below.f x1000 x1001 x1002 (x168001.length : Int)).bind fun bt171 => (spec_l02DrawWay.l1 k x3 x9 x10 x11 bt171.1 0 x1000 bt171.2.1 bt171.2.2 x168000 x168001)) else (some (x9, x1001, x1002))
def spec_l02DrawWay.l1 : Nat → Int → List Int → Int → Int → Int → Int → List Int → Int → Int → Int → List (S99) → Option (List Int × Int × Int)
  | 0, _, _, _, _, _, _, _, _, _, _, _ => none
  | k + 1, x3, x9, x10, x11, x12, x13, x1000, x1001, x1002, x168000, x168001 => if x13 < (x168001.length : Int) then (if (x168001.length : Int) = 0 then (none) else (if 0 ≤ (Int.tmod (wrap64 (x12 + x13)) (x168001.length : Int)) then (if (Int.tmod (wrap64 (x12 + x13)) (x168001.length : Int)) < (x168001.length : Int) then ((spec_l02Other.f ((rd_T99 x168001 (Int.tmod (wrap64 (x12 + x13)) (x168001.length : Int))).f0) ((rd_T99 x168001 (Int.tmod (wrap64 (x12 + x13)) (x168001.length : Int))).f1) ((rd_T99 x168001 (Int.tmod (wrap64 (x12 + x13)) (x168001.length : Int))).f2) ((rd_T99 x168001 (Int.tmod (wrap64 (x12 + x13)) (x168001.length : Int))).f3) x10).bind fun t175 => (if t175 ≥ 0 then (if x9.length < 17592186044416 then (spec_l02DrawWay.l0 k x3 (x9 ++ [Int.tmod (wrap64 (x12 + x13)) (x168001.length : Int)]) t175 (wrap64 (x11 + 1)) x1000 x1001 x1002 x168000 x168001) else (none)) else (spec_l02DrawWay.l1 k x3 x9 x10 x11 x12 (wrap64 (x13 + 1)) x1000 x1001 x1002 x168000 x168001))) else (none)) else (none))) else (spec_l02DrawWay.l0 k x3 x9 x10 (wrap64 (x11 + 1)) x1000 x1001 x1002 x168000 x168001)
end
def spec_l02DrawWay.f (k : Nat) (s0_0 : List Int) (s0_1 : Int) (s0_2 : Int) (a1_0 : Int) (l1_1 : List (S99)) (a2 : Int) (a3 : Int) : Option (List Int × Int × Int) := spec_l02DrawWay.l0 k a3 (([] : List Int)) a2 0 s0_0 s0_1 s0_2 a1_0 l1_1
def spec_l08DrawTrip.l0 : Nat → Int → Int → Int → List Int → Int → Int → Int → List (S99) → ByteArray → List (S67) → Option (ByteArray × (List (S67)) × Int × Int)
  | 0, _, _, _, _, _, _, _, _, _, _ => none
  | k + 1, x8, x9, x10, x1000, x1001, x1002, x180000, x180001, x185000, x185001 => if x10 > 0 then ((spec_l01Below.f x1000 x1001 x1002 4).bind fun bt194 => (if x185001.length < 5864062014805 then ((some (x185001 ++ [(⟨x8, x9, wrap64 (x9 + bt194.1)⟩ : S67)] : List (S67))).bind fun y197 => ((spec_l01Below.f x1000 bt194.2.1 bt194.2.2 14).bind fun bt200 => ((spec_l01Below.f x1000 bt200.2.1 bt200.2.2 (wrap64 (x180000 - 1))).bind fun bt203 => (if x180000 = 0 then (none) else ((spec_l02DrawWay.f k x1000 bt203.2.1 bt203.2.2 x180000 x180001 x8 1).bind fun bt206 => (if (bt206.1.length : Int) = 1 then (if 0 < (bt206.1.length : Int) then (if 0 ≤ (rd bt206.1 0) then (if (rd bt206.1 0) < (x180001.length : Int) then ((spec_l02Other.f ((rd_T99 x180001 (rd bt206.1 0)).f0) ((rd_T99 x180001 (rd bt206.1 0)).f1) ((rd_T99 x180001 (rd bt206.1 0)).f2) ((rd_T99 x180001 (rd bt206.1 0)).f3) x8).bind fun t213 => (spec_l08DrawTrip.l0 k t213 (wrap64 ((wrap64 ((wrap64 (x9 + bt194.1)) + 2)) + bt200.1)) (wrap64 (x10 - 1)) x1000 bt206.2.1 bt206.2.2 x180000 x180001 x185000 y197)) else (none)) else (none)) else (none)) else (spec_l08DrawTrip.l0 k (Int.tmod (wrap64 ((wrap64 (x8 + 1)) + bt203.1)) x180000) (wrap64 ((wrap64 ((wrap64 (x9 + bt194.1)) + 2)) + bt200.1)) (wrap64 (x10 - 1)) x1000 bt206.2.1 bt206.2.2 x180000 x180001 x185000 y197))))))) else (none))) else (some (x185000, x185001, x1001, x1002))
def spec_l08DrawTrip.f (k : Nat) (s0_0 : List Int) (s0_1 : Int) (s0_2 : Int) (a1_0 : Int) (l1_1 : List (S99)) (a2 : Int) : Option (ByteArray × (List (S67)) × Int × Int) := (spec_l08DrawName.f k s0_0 s0_1 s0_2).bind fun bt181 => ((spec_l01Below.f s0_0 bt181.2.1 bt181.2.2 a1_0).bind fun bt185 => ((spec_l01Below.f s0_0 bt185.2.1 bt185.2.2 120).bind fun bt188 => ((spec_l01Below.f s0_0 bt188.2.1 bt188.2.2 (wrap64 (a2 - 1))).bind fun bt191 => (spec_l08DrawTrip.l0 k bt185.1 bt188.1 (wrap64 (2 + bt191.1)) s0_0 bt191.2.1 bt191.2.2 a1_0 l1_1 bt181.1 ([] : List (S67))))))
def spec_l08Taken.l0 : Nat → List (S51) → ByteArray → Int → Option (Bool)
  | 0, _, _, _ => none
  | k + 1, x0, x1, x5 => if x5 < (x0.length : Int) then (if 0 ≤ x5 then (if ((rd_T51 x0 x5).f0).toList = x1.toList then (some true) else (spec_l08Taken.l0 k x0 x1 (wrap64 (x5 + 1)))) else (none)) else (some false)
def spec_l08Taken.f (k : Nat) (l0 : List (S51)) (a1 : ByteArray) : Option (Bool) := spec_l08Taken.l0 k l0 a1 0
def spec_l08DrawTable.l0 : Nat → List (S51) → Int → List Int → Int → Int → Int → List (S99) → Option ((List (S51)) × Int × Int)
  | 0, _, _, _, _, _, _, _ => none
  | k + 1, x7, x8, x1000, x1001, x1002, x216000, x216001 => if x8 > 0 then ((spec_l08DrawTrip.f k x1000 x1001 x1002 x216000 x216001 4).bind fun bt222 => ((spec_l08Taken.f k x7 bt222.1).bind fun t229 => (if t229 = true then (spec_l08DrawTable.l0 k x7 (wrap64 (x8 - 1)) x1000 bt222.2.2.1 bt222.2.2.2 x216000 x216001) else (if x7.length < 3518437208883 then (spec_l08DrawTable.l0 k (x7 ++ [(⟨bt222.1, bt222.2.1⟩ : S51)]) (wrap64 (x8 - 1)) x1000 bt222.2.2.1 bt222.2.2.2 x216000 x216001) else (none))))) else (some (x7, x1001, x1002))
def spec_l08DrawTable.f (k : Nat) (s0_0 : List Int) (s0_1 : Int) (s0_2 : Int) (a1_0 : Int) (l1_1 : List (S99)) (a2 : Int) : Option ((List (S51)) × Int × Int) := (spec_l01Below.f s0_0 s0_1 s0_2 a2).bind fun bt219 => (spec_l08DrawTable.l0 k (([] : List (S51))) (wrap64 (1 + bt219.1)) s0_0 bt219.2.1 bt219.2.2 a1_0 l1_1)
def spec_l01Size.f (l0 : List Int) (a1 : Int) : Option (Int) := if (wrap64 (2 + (wrap64 ((l0.length : Int) / 16)))) > a1 then (some a1) else (some (wrap64 (2 + (wrap64 ((l0.length : Int) / 16)))))
def spec_DrawRightQuestion.f (k : Nat) (l0 : List Int) : Option ((List (S51)) × Int × Int × Int × Int) := (spec_l01New.f k l0).bind fun bt233 => ((spec_l01Below.f bt233.1 bt233.2.1 bt233.2.2 2).bind fun bt237 => ((spec_l01Size.f l0 8).bind fun t240 => ((spec_l08DrawTable.f k bt233.1 bt237.2.1 bt237.2.2 (wrap64 (4 + bt237.1)) ([] : List (S99)) (wrap64 (3 + t240))).bind fun bt241 => ((spec_l01Below.f bt233.1 bt241.2.1 bt241.2.2 5).bind fun bt246 => ((spec_l01Below.f bt233.1 bt246.2.1 bt246.2.2 5).bind fun bt249 => ((spec_l01Below.f bt233.1 bt249.2.1 bt249.2.2 60).bind fun bt252 => ((spec_l01Below.f bt233.1 bt252.2.1 bt252.2.2 8).bind fun bt255 => (some (bt241.1, bt246.1, bt249.1, bt252.1, bt255.1)))))))))
def laws_at.f (l0 : List Int) (a1 : Int) : Option (Int) := if a1 < (l0.length : Int) then (if 0 ≤ a1 then (some (wrap64 (rd l0 a1))) else (none)) else (some (Int.tmod (wrap64 ((wrap64 (a1 * 11)) + (wrap64 ((l0.length : Int) * 3)))) 256))
mutual
def impl_legsFrom.l0 : Nat → Int → List (S72) → List (S51) → Int → Int → Option ((List (S72)))
  | 0, _, _, _, _, _ => none
  | k + 1, x1, x5, x12, x13, x14 => if x14 < x13 then (if 0 ≤ x14 then (if x14 < (x12.length : Int) then (impl_legsFrom.l1 k x1 x5 x14 x12 x13 x14 ((rd_T51 x12 x14).f1) (((rd_T51 x12 x14).f1).length : Int) 0 ((rd_T51 x12 x14).f0) ((rd_T51 x12 x14).f1)) else (none)) else (none)) else (some x5)
def impl_legsFrom.l1 : Nat → Int → List (S72) → Int → List (S51) → Int → Int → List (S67) → Int → Int → ByteArray → List (S67) → Option ((List (S72)))
  | 0, _, _, _, _, _, _, _, _, _, _, _ => none
  | k + 1, x1, x5, x6, x12, x13, x14, x20, x21, x22, x264000, x264001 => if x22 < x21 then (if 0 ≤ x22 then (if x22 < (x20.length : Int) then (if ((rd_T67 x20 x22).f0) = x1 then (impl_legsFrom.l2 k x1 x5 x6 x22 (wrap64 (x22 + 1)) x12 x13 x14 x20 x21 x22 x264000 x264001) else (impl_legsFrom.l1 k x1 x5 x6 x12 x13 x14 x20 x21 (wrap64 (x22 + 1)) x264000 x264001)) else (none)) else (none)) else (impl_legsFrom.l0 k x1 x5 x12 x13 (wrap64 (x14 + 1)))
def impl_legsFrom.l2 : Nat → Int → List (S72) → Int → Int → Int → List (S51) → Int → Int → List (S67) → Int → Int → ByteArray → List (S67) → Option ((List (S72)))
  | 0, _, _, _, _, _, _, _, _, _, _, _, _, _ => none
  | k + 1, x1, x5, x6, x8, x10, x12, x13, x14, x20, x21, x22, x264000, x264001 => if x10 < (x264001.length : Int) then (if x5.length < 5864062014805 then (impl_legsFrom.l2 k x1 (x5 ++ [(⟨x6, x8, x10⟩ : S72)]) x6 x8 (wrap64 (x10 + 1)) x12 x13 x14 x20 x21 x22 x264000 x264001) else (none)) else (impl_legsFrom.l1 k x1 x5 x6 x12 x13 x14 x20 x21 (wrap64 (x22 + 1)) x264000 x264001)
end
def impl_legsFrom.f (k : Nat) (l0 : List (S51)) (a1 : Int) : Option ((List (S72))) := impl_legsFrom.l0 k a1 (([] : List (S72))) l0 (l0.length : Int) 0
def impl_leaves.f (l0 : List (S51)) (a1_0 : Int) (a1_1 : Int) (a1_2 : Int) : Option (Int) := if 0 ≤ a1_0 then (if a1_0 < (l0.length : Int) then (if 0 ≤ a1_1 then (if a1_1 < (((rd_T51 l0 a1_0).f1).length : Int) then (some ((rd_T67 ((rd_T51 l0 a1_0).f1) a1_1).f2)) else (none)) else (none)) else (none)) else (none)
def impl_ends.f (l0 : List (S51)) (a1_0 : Int) (a1_1 : Int) (a1_2 : Int) : Option (Int) := if 0 ≤ a1_0 then (if a1_0 < (l0.length : Int) then (if 0 ≤ a1_2 then (if a1_2 < (((rd_T51 l0 a1_0).f1).length : Int) then (some ((rd_T67 ((rd_T51 l0 a1_0).f1) a1_2).f0)) else (none)) else (none)) else (none)) else (none)
def impl_arrives.f (l0 : List (S51)) (a1_0 : Int) (a1_1 : Int) (a1_2 : Int) : Option (Int) := if 0 ≤ a1_0 then (if a1_0 < (l0.length : Int) then (if 0 ≤ a1_2 then (if a1_2 < (((rd_T51 l0 a1_0).f1).length : Int) then (some ((rd_T67 ((rd_T51 l0 a1_0).f1) a1_2).f1)) else (none)) else (none)) else (none)) else (none)
def impl_departures.l0 (l : List S51) (node : Int) : List S72 := (List.range l.length).flatMap fun i => (List.range (l.getD i z51).f1.length).flatMap fun on => if ((l.getD i z51).f1.getD on z67).f0 = node then (List.range ((l.getD i z51).f1.length - (on + 1))).map fun m => (⟨(i : Int), (on : Int), ((on + 1 + m : Nat) : Int)⟩ : S72) else []
def impl_departures.l1 (l : List S51) (x : S72) : S67 := rd_T67 (rd_T51 l x.f0).f1 x.f1
def impl_departures.l2 (l : List S51) (x : S72) : S67 := rd_T67 (rd_T51 l x.f0).f1 x.f2
def impl_departures.l3 (l : List S51) (tg by_ ch : Int) (last : Bool) (rw : Nat → Int) (x : S72) : Bool := if last = true then decide ((impl_departures.l2 l x).f0 = tg) && decide ((impl_departures.l2 l x).f1 ≤ by_) else decide ((impl_departures.l2 l x).f1 + ch ≤ rw (impl_departures.l2 l x).f0.toNat)
def impl_departures.l4 (l : List S51) (tg by_ ch : Int) (h node : Nat) (o : List Int) (x : S72) : List Int := if impl_departures.l3 l tg by_ ch (decide (h = 0)) (fun i => o.getD (h * 30 + i) 0) x = true then o.set ((h + 1) * 30 + node) (max (o.getD ((h + 1) * 30 + node) 0) (impl_departures.l1 l x).f2) else o
def impl_departures.l5 (l : List S51) (tg by_ ch : Int) (h : Nat) : Nat → List Int → List Int
  | 0, o => o
  | node + 1, o => (impl_departures.l0 l (node : Int)).foldl (impl_departures.l4 l tg by_ ch h node) (impl_departures.l5 l tg by_ ch h node o)
def impl_departures.l6 (l : List S51) (tg by_ ch : Int) : Nat → List Int → List Int
  | 0, o => o
  | h + 1, o => impl_departures.l5 l tg by_ ch h 30 (impl_departures.l6 l tg by_ ch h o)
def impl_departures.l7 (l : List S51) (tg by_ ch : Int) (hops : Nat) : List Int := impl_departures.l6 l tg by_ ch hops (List.replicate ((hops + 1) * 30) (-1))
def impl_departures.l8 (l : List S51) : Bool := decide (l.length ≤ 24) && l.all (fun t => decide (t.f1.length ≤ 12) && t.f1.all (fun c => decide (0 ≤ c.f0) && decide (c.f0 < 30) && decide (0 ≤ c.f1) && decide (c.f1 ≤ 100000) && decide (0 ≤ c.f2) && decide (c.f2 ≤ 100000)))
def impl_Latest.l0 (o : List Int) (fr : Nat) : Nat → Int
  | 0 => -1
  | h + 1 => max (impl_Latest.l0 o fr h) (o.getD (h * 30 + fr) 0)
def impl_Latest.l1 (l0 : List S51) (a1 : Int) (a2 : Int) (a3 : Int) (a4 : Int) (a5 : Int) : Option Int := if impl_departures.l8 l0 = true ∧ 0 ≤ a1 ∧ a1 < 30 ∧ 0 ≤ a2 ∧ a2 < 30 ∧ 0 ≤ a3 ∧ a3 ≤ 100000 ∧ 0 ≤ a4 ∧ a4 ≤ 60 ∧ 0 ≤ a5 ∧ a5 ≤ 5 then some (if a1 = a2 then a3 else impl_Latest.l0 (impl_departures.l7 l0 a2 a3 a4 a5.toNat) a1.toNat (a5.toNat + 1)) else none
def impl_Latest.f (k : Nat) (l0 : List S51) (a1 : Int) (a2 : Int) (a3 : Int) (a4 : Int) (a5 : Int) : Option Int := (impl_questionOk.f k l0 a1 a2 a3 a4 a5).bind fun t => if t = true then impl_Latest.l1 l0 a1 a2 a3 a4 a5 else some (-1)
def laws_FnLatest.f (k : Nat) (l0 : List Int) : Option (Bool) := (laws_big.f l0).bind fun t278 => (if t278 = true then (some true) else ((spec_DrawRightQuestion.f k l0).bind fun bt279 => ((laws_at.f l0 5).bind fun t286 => ((impl_Latest.f k bt279.1 bt279.2.1 bt279.2.2.1 (wrap64 ((wrap64 (bt279.2.2.2.1 + 30)) + (Int.tmod t286 90))) bt279.2.2.2.2 5).bind fun t287 => (if bt279.2.1 = bt279.2.2.1 then (some (t287 == (wrap64 ((wrap64 (bt279.2.2.2.1 + 30)) + (Int.tmod t286 90))))) else (if t287 < 0 then ((impl_Soonest.f k bt279.1 bt279.2.1 bt279.2.2.1 0 bt279.2.2.2.2 5).bind fun t288 => (if t287 = (-1) then (if t288 < 0 then (some true) else (some (decide (t288 > (wrap64 ((wrap64 (bt279.2.2.2.1 + 30)) + (Int.tmod t286 90))))))) else (some false))) else ((impl_Soonest.f k bt279.1 bt279.2.1 bt279.2.2.1 t287 bt279.2.2.2.2 5).bind fun t289 => ((impl_Soonest.f k bt279.1 bt279.2.1 bt279.2.2.1 (wrap64 (t287 + 1)) bt279.2.2.2.2 5).bind fun t290 => (if t287 ≤ (wrap64 ((wrap64 (bt279.2.2.2.1 + 30)) + (Int.tmod t286 90))) then (if t289 ≥ 0 then (if t289 ≤ (wrap64 ((wrap64 (bt279.2.2.2.1 + 30)) + (Int.tmod t286 90))) then (if t290 < 0 then (some true) else (some (decide (t290 > (wrap64 ((wrap64 (bt279.2.2.2.1 + 30)) + (Int.tmod t286 90))))))) else (some false)) else (some false)) else (some false))))))))))
def laws_FnLatest.Pure : Prop := ∀ (l0 : List Int), l0.length ≤ maxLen → l0.length * 1 ≤ 140737488351232 → (∀ x ∈ l0, (Lit.int .u8 x).wf = true) → ∃ k, laws_FnLatest.f k l0 = some true
end Go.Proofs.Ytdpjoblnjjkbfaa.P

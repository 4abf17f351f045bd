/- The functions of the program as plain Lean functions, without memory and machine; written by a program of the session. -/
import Derived.Test.YtnojpcmaalbdhaaDoorS1
import Derived.Test.YtnojpcmaalbdhaaDoorProg
import Derived.Test.YtnojpcmaalbdhaaDoorV
namespace Go.Proofs.YtnojpcmaalbdhaaDoor.P
open Go.RowKit Go.Proofs.YtnojpcmaalbdhaaDoorW.PrintWords Go.Proofs.YtnojpcmaalbdhaaDoorW.PrintLast Go.Proofs.YtnojpcmaalbdhaaDoorW.PrintMore
set_option linter.unusedVariables false

structure S46 where
  f0 : Int
  f1 : Int
  f2 : Int
  f3 : Bool
def z46 : S46 := ⟨(0 : Int), (0 : Int), (0 : Int), false⟩
def rd_T46 (xs : List S46) (i : Int) : S46 := xs.getD i.toNat z46
structure S43 where
  f0 : Int
  f1 : Int
  f2 : Int
  f3 : Bool
def z43 : S43 := ⟨(0 : Int), (0 : Int), (0 : Int), false⟩
def rd_T43 (xs : List S43) (i : Int) : S43 := xs.getD i.toNat z43
def rd_L6 (xs : List (List S46)) (i : Int) : (List S46) := xs.getD i.toNat ([] : List S46)
def laws_szUnitS.f (l0 : List (S46)) (a1 : Int) : Option (Int) := if (wrap64 (a1 - (l0.length : Int))) < 0 then (some (-1)) else (some (wrap64 (a1 - (l0.length : Int))))
def spec_l01In.f (a0 : Int) (a1 : Int) (a2 : Int) : Option (Bool) := if a1 ≤ a0 then (some (decide (a0 ≤ a2))) else (some false)
mutual
def spec_FormOk.l0 : Nat → List (S43) → Int → Option (Bool)
  | 0, _, _ => none
  | k + 1, x0, x3 => if x3 < (x0.length : Int) then (if 0 ≤ x3 then ((spec_l01In.f ((rd_T43 x0 x3).f0) 1 9999).bind fun t103 => (if t103 = true then ((spec_l01In.f ((rd_T43 x0 x3).f1) 1 9).bind fun t104 => (if t104 = true then ((spec_l01In.f ((rd_T43 x0 x3).f2) 1 200).bind fun t105 => (spec_FormOk.j1 k x0 x3 (!t105) ((rd_T43 x0 x3).f0) ((rd_T43 x0 x3).f1) ((rd_T43 x0 x3).f2) ((rd_T43 x0 x3).f3))) else (spec_FormOk.j1 k x0 x3 true ((rd_T43 x0 x3).f0) ((rd_T43 x0 x3).f1) ((rd_T43 x0 x3).f2) ((rd_T43 x0 x3).f3)))) else (spec_FormOk.j1 k x0 x3 true ((rd_T43 x0 x3).f0) ((rd_T43 x0 x3).f1) ((rd_T43 x0 x3).f2) ((rd_T43 x0 x3).f3)))) else (none)) else (some true)
def spec_FormOk.j1 : Nat → List (S43) → Int → Bool → Int → Int → Int → Bool → Option (Bool)
  | 0, _, _, _, _, _, _, _ => none
  | k + 1, x0, x3, x34, x103000, x103001, x103002, x103003 => if x34 = true then (some false) else (spec_FormOk.l1 k x0 x3 0 x103000 x103001 x103002 x103003)
def spec_FormOk.l1 : Nat → List (S43) → Int → Int → Int → Int → Int → Bool → Option (Bool)
  | 0, _, _, _, _, _, _, _ => none
  | k + 1, x0, x3, x5, x103000, x103001, x103002, x103003 => if x5 < x3 then (if 0 ≤ x5 then (if x5 < (x0.length : Int) then (if ((rd_T43 x0 x5).f0) = x103000 then (some false) else (spec_FormOk.l1 k x0 x3 (wrap64 (x5 + 1)) x103000 x103001 x103002 x103003)) else (none)) else (none)) else (spec_FormOk.l0 k x0 (wrap64 (x3 + 1)))
end
def spec_FormOk.f (k : Nat) (l0 : List (S43)) : Option (Bool) := if (l0.length : Int) > 30 then (some false) else (spec_FormOk.l0 k l0 0)
def spec_l01Num.l0 : Nat → Int → ByteArray → Bool → Option (ByteArray)
  | 0, _, _, _ => none
  | k + 1, x0, x3, x4 => if x0 = 0 then (if x4 = true then (if 1 + x3.size ≤ 9223372036854775807 then (some ((⟨#[45]⟩ : ByteArray) ++ x3)) else (none)) else (some x3)) else (if (Int.tmod x0 10) < 0 then ((some (([(wrap64 (48 + (wrap64 (-(Int.tmod x0 10))))) % 256] : List Int) : List Int)).bind fun y107 => (if (strOfNums y107).size + x3.size ≤ 9223372036854775807 then (spec_l01Num.l0 k (wrap64 (Int.tdiv x0 10)) ((strOfNums y107) ++ x3) x4) else (none))) else ((some (([(wrap64 (48 + (Int.tmod x0 10))) % 256] : List Int) : List Int)).bind fun y110 => (if (strOfNums y110).size + x3.size ≤ 9223372036854775807 then (spec_l01Num.l0 k (wrap64 (Int.tdiv x0 10)) ((strOfNums y110) ++ x3) x4) else (none))))
def spec_l01Num.f (k : Nat) (a0 : Int) : Option (ByteArray) := if a0 = 0 then (some (⟨#[48]⟩ : ByteArray)) else (spec_l01Num.l0 k a0 (⟨#[]⟩ : ByteArray) (decide (a0 < 0)))
mutual
def spec_StockText.l0 : Nat → List (S43) → ByteArray → Int → Option (ByteArray)
  | 0, _, _, _ => none
  | k + 1, x0, x3, x4 => if x4 < (x0.length : Int) then (if x4 > 0 then (if x3.size + 1 ≤ 9223372036854775807 then (spec_StockText.j1 k x0 (x3 ++ (⟨#[43]⟩ : ByteArray)) x4) else (none)) else (spec_StockText.j1 k x0 x3 x4)) else (if (x3.size : Int) > 120 then (some (⟨#[]⟩ : ByteArray)) else (some x3))
def spec_StockText.j1 : Nat → List (S43) → ByteArray → Int → Option (ByteArray)
  | 0, _, _, _ => none
  | k + 1, x0, x3, x4 => if 0 ≤ x4 then (if x4 < (x0.length : Int) then ((some (([(wrap64 (64 + ((rd_T43 x0 x4).f1))) % 256] : List Int) : List Int)).bind fun y115 => (if x3.size + (strOfNums y115).size ≤ 9223372036854775807 then ((spec_l01Num.f k ((rd_T43 x0 x4).f0)).bind fun t119 => (if (x3 ++ (strOfNums y115)).size + t119.size ≤ 9223372036854775807 then (if ((x3 ++ (strOfNums y115)) ++ t119).size + 1 ≤ 9223372036854775807 then ((spec_l01Num.f k ((rd_T43 x0 x4).f2)).bind fun t121 => (if (((x3 ++ (strOfNums y115)) ++ t119) ++ (⟨#[47]⟩ : ByteArray)).size + t121.size ≤ 9223372036854775807 then (if (rd_T43 x0 x4).f3 = true then (if ((((x3 ++ (strOfNums y115)) ++ t119) ++ (⟨#[47]⟩ : ByteArray)) ++ t121).size + 1 ≤ 9223372036854775807 then (spec_StockText.l0 k x0 (((((x3 ++ (strOfNums y115)) ++ t119) ++ (⟨#[47]⟩ : ByteArray)) ++ t121) ++ (⟨#[60]⟩ : ByteArray)) (wrap64 (x4 + 1))) else (none)) else (if ((((x3 ++ (strOfNums y115)) ++ t119) ++ (⟨#[47]⟩ : ByteArray)) ++ t121).size + 1 ≤ 9223372036854775807 then (spec_StockText.l0 k x0 (((((x3 ++ (strOfNums y115)) ++ t119) ++ (⟨#[47]⟩ : ByteArray)) ++ t121) ++ (⟨#[62]⟩ : ByteArray)) (wrap64 (x4 + 1))) else (none))) else (none))) else (none)) else (none))) else (none))) else (none)) else (none)
end
def spec_StockText.f (k : Nat) (l0 : List (S43)) : Option (ByteArray) := (spec_FormOk.f k l0).bind fun t113 => (if t113 = true then (if (l0.length : Int) = 0 then (some (⟨#[45]⟩ : ByteArray)) else (spec_StockText.l0 k l0 (⟨#[]⟩ : ByteArray) 0)) else (some (⟨#[]⟩ : ByteArray)))
def laws_toUnit.f (a0_0 : Int) (a0_1 : Int) (a0_2 : Int) (a0_3 : Bool) : Option (Int × Int × Int × Bool) := some (a0_0, a0_1, a0_2, a0_3)
def laws_toUnitS.l0 : Nat → List (S46) → List (S43) → Int → Option ((List (S43)))
  | 0, _, _, _ => none
  | k + 1, x0, x3, x4 => if x4 < (x0.length : Int) then (if 0 ≤ x4 then ((laws_toUnit.f ((rd_T46 x0 x4).f0) ((rd_T46 x0 x4).f1) ((rd_T46 x0 x4).f2) ((rd_T46 x0 x4).f3)).bind fun bt130 => (if x4 < (x3.length : Int) then (laws_toUnitS.l0 k x0 (x3.set (x4 : Int).toNat (⟨bt130.1, bt130.2.1, bt130.2.2.1, bt130.2.2.2⟩ : S43)) (wrap64 (x4 + 1))) else (none))) else (none)) else (some x3)
def laws_toUnitS.f (k : Nat) (l0 : List (S46)) : Option ((List (S43))) := if 0 ≤ (l0.length : Int) then (if ((l0.length : Int) : Int).toNat ≤ 8796093022208 then (laws_toUnitS.l0 k l0 (List.replicate ((l0.length : Int) : Int).toNat z43) 0) else (none)) else (none)
def impl_between.f (a0 : Int) (a1 : Int) (a2 : Int) : Option (Bool) := if a0 ≥ a1 then (some (decide (a0 ≤ a2))) else (some false)
def impl_FormOk.l1 (l : List S43) (j : Nat) : Bool := decide (1 ≤ (rd_T43 l j).f0 ∧ (rd_T43 l j).f0 ≤ 9999) && decide (1 ≤ (rd_T43 l j).f1 ∧ (rd_T43 l j).f1 ≤ 9) && decide (1 ≤ (rd_T43 l j).f2 ∧ (rd_T43 l j).f2 ≤ 200) && !((l.take j).any fun x => x.f0 == (rd_T43 l j).f0)
def impl_FormOk.l0 (l : List S43) : Bool := decide (l.length ≤ 30) && (List.range l.length).all (impl_FormOk.l1 l)
def impl_FormOk.f (l0 : List S43) : Option Bool := some (impl_FormOk.l0 l0)
def strconv_Itoa_27.f (a0 : Int) : Option ByteArray := if 0 ≤ a0 ∧ a0 < 1000000 then some ⟨(Lib.decDigits a0.toNat).toArray⟩ else none
def strings_Join.f (l0 : List ByteArray) (a1 : ByteArray) : Option ByteArray := if 1 ≤ l0.length ∧ l0.length ≤ 1000 ∧ (Lib.join (l0.map (·.data.toList)) a1.data.toList).length ≤ 1000000 then some ⟨(Lib.join (l0.map (·.data.toList)) a1.data.toList).toArray⟩ else none
def impl_StockText.l0 : Nat → List ByteArray → List (S43) → Int → Int → Option (ByteArray)
  | 0, _, _, _, _ => none
  | k + 1, x3, x17, x18, x19 => if x19 < x18 then (if 0 ≤ x19 then (if x19 < (x17.length : Int) then (if (rd_T43 x17 x19).f3 = true then ((some (([(65 + ((wrap64 (((rd_T43 x17 x19).f1) - 1)) % 256)) % 256] : List Int) : List Int)).bind fun y142 => ((strconv_Itoa_27.f ((rd_T43 x17 x19).f0)).bind fun t145 => (if (strOfNums y142).size + t145.size ≤ 9223372036854775807 then (if ((strOfNums y142) ++ t145).size + 1 ≤ 9223372036854775807 then ((strconv_Itoa_27.f ((rd_T43 x17 x19).f2)).bind fun t146 => (if (((strOfNums y142) ++ t145) ++ (⟨#[47]⟩ : ByteArray)).size + t146.size ≤ 9223372036854775807 then (if ((((strOfNums y142) ++ t145) ++ (⟨#[47]⟩ : ByteArray)) ++ t146).size + 1 ≤ 9223372036854775807 then (if x19 < (x3.length : Int) then (impl_StockText.l0 k (x3.set (x19 : Int).toNat (((((strOfNums y142) ++ t145) ++ (⟨#[47]⟩ : ByteArray)) ++ t146) ++ (⟨#[60]⟩ : ByteArray))) x17 x18 (wrap64 (x19 + 1))) else (none)) else (none)) else (none))) else (none)) else (none)))) else ((some (([(65 + ((wrap64 (((rd_T43 x17 x19).f1) - 1)) % 256)) % 256] : List Int) : List Int)).bind fun y148 => ((strconv_Itoa_27.f ((rd_T43 x17 x19).f0)).bind fun t151 => (if (strOfNums y148).size + t151.size ≤ 9223372036854775807 then (if ((strOfNums y148) ++ t151).size + 1 ≤ 9223372036854775807 then ((strconv_Itoa_27.f ((rd_T43 x17 x19).f2)).bind fun t152 => (if (((strOfNums y148) ++ t151) ++ (⟨#[47]⟩ : ByteArray)).size + t152.size ≤ 9223372036854775807 then (if ((((strOfNums y148) ++ t151) ++ (⟨#[47]⟩ : ByteArray)) ++ t152).size + 1 ≤ 9223372036854775807 then (if x19 < (x3.length : Int) then (impl_StockText.l0 k (x3.set (x19 : Int).toNat (((((strOfNums y148) ++ t151) ++ (⟨#[47]⟩ : ByteArray)) ++ t152) ++ (⟨#[62]⟩ : ByteArray))) x17 x18 (wrap64 (x19 + 1))) else (none)) else (none)) else (none))) else (none)) else (none))))) else (none)) else (none)) else ((strings_Join.f x3 (⟨#[43]⟩ : ByteArray)).bind fun t139 => (if (t139.size : Int) > 120 then (some (⟨#[]⟩ : ByteArray)) else (some t139)))
def impl_StockText.f (k : Nat) (l0 : List (S43)) : Option (ByteArray) := (impl_FormOk.f l0).bind fun t135 => (if t135 = true then (if (l0.length : Int) = 0 then (some (⟨#[45]⟩ : ByteArray)) else (if 0 ≤ (l0.length : Int) then (if ((l0.length : Int) : Int).toNat ≤ 17592186044416 then (impl_StockText.l0 k (List.replicate ((l0.length : Int) : Int).toNat (⟨#[]⟩ : ByteArray)) l0 (l0.length : Int) 0) else (none)) else (none))) else (some (⟨#[]⟩ : ByteArray)))
def laws_eqUnit.f (a0_0 : Int) (a0_1 : Int) (a0_2 : Int) (a0_3 : Bool) (a1_0 : Int) (a1_1 : Int) (a1_2 : Int) (a1_3 : Bool) : Option (Bool) := if a0_0 = a1_0 then (if a0_1 = a1_1 then (if a0_2 = a1_2 then (if (a0_3 != a1_3) = true then (some false) else (some true)) else (some false)) else (some false)) else (some false)
def laws_eqUnitS.l0 : Nat → List (S43) → List (S43) → Int → Option (Bool)
  | 0, _, _, _ => none
  | k + 1, x0, x1, x5 => if x5 < (x0.length : Int) then (if 0 ≤ x5 then (if x5 < (x1.length : Int) then ((laws_eqUnit.f ((rd_T43 x0 x5).f0) ((rd_T43 x0 x5).f1) ((rd_T43 x0 x5).f2) ((rd_T43 x0 x5).f3) ((rd_T43 x1 x5).f0) ((rd_T43 x1 x5).f1) ((rd_T43 x1 x5).f2) ((rd_T43 x1 x5).f3)).bind fun t158 => (if t158 = true then (laws_eqUnitS.l0 k x0 x1 (wrap64 (x5 + 1))) else (some false))) else (none)) else (none)) else (some true)
def laws_eqUnitS.f (k : Nat) (l0 : List (S43)) (l1 : List (S43)) : Option (Bool) := if (l0.length : Int) = (l1.length : Int) then (laws_eqUnitS.l0 k l0 l1 0) else (some false)
def laws_FnExactStockText.f (k : Nat) (l0 : List (S46)) : Option (Bool) := (laws_szUnitS.f l0 1048576).bind fun t159 => (if t159 < 0 then (some true) else ((laws_toUnitS.f k l0).bind fun t160 => ((spec_StockText.f k t160).bind fun t163 => ((laws_toUnitS.f k l0).bind fun t164 => ((impl_StockText.f k t164).bind fun t167 => (if t167.toList = t163.toList then ((laws_toUnitS.f k l0).bind fun t168 => ((laws_eqUnitS.f k t164 t168).bind fun t171 => (if t171 = true then (some true) else (some false)))) else (some false)))))))
def spec_l08Split.l0 : Nat → ByteArray → Int → List ByteArray → Int → Int → Option (List ByteArray)
  | 0, _, _, _, _, _ => none
  | k + 1, x0, x1, x5, x6, x7 => if x7 ≤ (x0.size : Int) then (if x7 = (x0.size : Int) then (if 0 ≤ x6 then (if x6 ≤ x7 then (if x5.length < 8796093022208 then (spec_l08Split.l0 k x0 x1 (x5 ++ [x0.extract (x6 : Int).toNat (x7 : Int).toNat]) (wrap64 (x7 + 1)) (wrap64 (x7 + 1))) else (none)) else (none)) else (none)) else (if 0 ≤ x7 then (if x7 < (x0.size : Int) then (if (bt x0 x7) = x1 then (if 0 ≤ x6 then (if x6 ≤ x7 then (if x5.length < 8796093022208 then (spec_l08Split.l0 k x0 x1 (x5 ++ [x0.extract (x6 : Int).toNat (x7 : Int).toNat]) (wrap64 (x7 + 1)) (wrap64 (x7 + 1))) else (none)) else (none)) else (none)) else (spec_l08Split.l0 k x0 x1 x5 x6 (wrap64 (x7 + 1)))) else (none)) else (none))) else (some x5)
def spec_l08Split.f (k : Nat) (a0 : ByteArray) (a1 : Int) : Option (List ByteArray) := spec_l08Split.l0 k a0 a1 (([] : List ByteArray)) 0 0
mutual
def spec_l08Number.l0 : Nat → ByteArray → Int → Int → Option (Int)
  | 0, _, _, _ => none
  | k + 1, x0, x3, x4 => if x4 < (x0.size : Int) then (spec_l08Number.j1 k x0 x3 x4 (decide (x4 < 8))) else (spec_l08Number.j1 k x0 x3 x4 false)
def spec_l08Number.j1 : Nat → ByteArray → Int → Int → Bool → Option (Int)
  | 0, _, _, _, _ => none
  | k + 1, x0, x3, x4, x12 => if x12 = true then (if 0 ≤ x4 then (if x4 < (x0.size : Int) then (if (bt x0 x4) < 48 then (some (-1)) else (if (bt x0 x4) > 57 then (some (-1)) else (spec_l08Number.l0 k x0 (wrap64 ((wrap64 ((wrap64 (x3 * 10)) + (wrap64 (bt x0 x4)))) - 48)) (wrap64 (x4 + 1))))) else (none)) else (none)) else (if (x0.size : Int) = 0 then (some (-1)) else (if (x0.size : Int) > 8 then (some (-1)) else ((spec_l01Num.f k x3).bind fun t181 => (if t181.toList = x0.toList then (some x3) else (some (-1))))))
end
def spec_l08Number.f (k : Nat) (a0 : ByteArray) : Option (Int) := spec_l08Number.l0 k a0 0 0
mutual
def spec_ReadStock.j0 : Nat → ByteArray → Bool → Option ((List (S43)) × Bool)
  | 0, _, _ => none
  | k + 1, x0, x17 => if x17 = true then (some (([] : List (S43)), false)) else ((spec_l08Split.f k x0 43).bind fun t185 => (spec_ReadStock.l0 k x0 (([] : List (S43))) t185 0))
def spec_ReadStock.l0 : Nat → ByteArray → List (S43) → List ByteArray → Int → Option ((List (S43)) × Bool)
  | 0, _, _, _, _ => none
  | k + 1, x0, x4, x5, x6 => if x6 < (x5.length : Int) then (if 0 ≤ x6 then (if ((rdOf ByteArray.empty x5 x6).size : Int) < 5 then (some (([] : List (S43)), false)) else (if 1 ≤ (wrap64 (((rdOf ByteArray.empty x5 x6).size : Int) - 1)) then (if (wrap64 (((rdOf ByteArray.empty x5 x6).size : Int) - 1)) ≤ ((rdOf ByteArray.empty x5 x6).size : Int) then ((spec_l08Split.f k ((rdOf ByteArray.empty x5 x6).extract 1 ((wrap64 (((rdOf ByteArray.empty x5 x6).size : Int) - 1)) : Int).toNat) 47).bind fun t189 => (if (t189.length : Int) = 2 then (if 0 < (t189.length : Int) then ((spec_l08Number.f k (rdOf ByteArray.empty t189 0)).bind fun t193 => (if 0 < ((rdOf ByteArray.empty x5 x6).size : Int) then (if 1 < (t189.length : Int) then ((spec_l08Number.f k (rdOf ByteArray.empty t189 1)).bind fun t195 => (if 0 ≤ (wrap64 (((rdOf ByteArray.empty x5 x6).size : Int) - 1)) then (if (wrap64 (((rdOf ByteArray.empty x5 x6).size : Int) - 1)) < ((rdOf ByteArray.empty x5 x6).size : Int) then (if x4.length < 4398046511104 then (spec_ReadStock.l0 k x0 (x4 ++ [(⟨t193, wrap64 ((wrap64 (bt (rdOf ByteArray.empty x5 x6) 0)) - 64), t195, ((bt (rdOf ByteArray.empty x5 x6) (wrap64 (((rdOf ByteArray.empty x5 x6).size : Int) - 1))) == 60)⟩ : S43)]) x5 (wrap64 (x6 + 1))) else (none)) else (none)) else (none))) else (none)) else (none))) else (none)) else (some (([] : List (S43)), false)))) else (none)) else (none))) else (none)) else ((spec_FormOk.f k x4).bind fun t199 => (if t199 = true then ((spec_StockText.f k x4).bind fun t200 => (if t200.toList = x0.toList then (some (x4, true)) else (some (([] : List (S43)), false)))) else (some (([] : List (S43)), false))))
end
def spec_ReadStock.f (k : Nat) (a0 : ByteArray) : Option ((List (S43)) × Bool) := if a0.toList = ([45] : List UInt8) then (some (([] : List (S43)), true)) else (if (a0.size : Int) > 120 then (spec_ReadStock.j0 k a0 true) else (spec_ReadStock.j0 k a0 (a0.toList == ([] : List UInt8))))
def strings_Split.f (a0 : ByteArray) (a1 : ByteArray) : Option (List ByteArray) := if 1 ≤ a1.size ∧ a0.size ≤ 1000000 then some (Lib.splitB a1 0 (Lib.countB a0 a1) a0) else none
def strings_Cut.f (a0 : ByteArray) (a1 : ByteArray) : Option (ByteArray × ByteArray × Bool) := if a0.size ≤ 1000000 then some (⟨(Lib.cut a0.data.toList a1.data.toList).1.toArray⟩, ⟨(Lib.cut a0.data.toList a1.data.toList).2.1.toArray⟩, (Lib.cut a0.data.toList a1.data.toList).2.2) else none
mutual
def impl_digits.j0 : Nat → ByteArray → Bool → Option (Int)
  | 0, _, _ => none
  | k + 1, x0, x15 => if x15 = true then (some (-1)) else (impl_digits.l0 k x0 0 0)
def impl_digits.l0 : Nat → ByteArray → Int → Int → Option (Int)
  | 0, _, _, _ => none
  | k + 1, x0, x5, x6 => if x6 < (x0.size : Int) then (if 0 ≤ x6 then (if (bt x0 x6) < 48 then (some (-1)) else (if (bt x0 x6) > 57 then (some (-1)) else (impl_digits.l0 k x0 (wrap64 ((wrap64 (10 * x5)) + (((bt x0 x6) - 48) % 256))) (wrap64 (x6 + 1))))) else (none)) else (some x5)
end
def impl_digits.f (k : Nat) (a0 : ByteArray) (a1 : Int) : Option (Int) := if (a0.size : Int) < 1 then (impl_digits.j0 k a0 true) else (impl_digits.j0 k a0 (decide ((a0.size : Int) > a1)))
def impl_readUnit.f (k : Nat) (a0 : ByteArray) : Option (Int × Int × Int × Bool) := if (a0.size : Int) < 2 then (some (0, 0, 0, false)) else (if 1 ≤ (wrap64 ((a0.size : Int) - 1)) then (if (wrap64 ((a0.size : Int) - 1)) ≤ (a0.size : Int) then ((strings_Cut.f (a0.extract 1 ((wrap64 ((a0.size : Int) - 1)) : Int).toNat) (⟨#[47]⟩ : ByteArray)).bind fun bt202 => ((impl_digits.f k bt202.1 4).bind fun t205 => (if 0 < (a0.size : Int) then ((impl_digits.f k bt202.2.1 3).bind fun t206 => (if 0 ≤ (wrap64 ((a0.size : Int) - 1)) then (if (wrap64 ((a0.size : Int) - 1)) < (a0.size : Int) then (some (t205, wrap64 ((wrap64 ((wrap64 (bt a0 0)) - 65)) + 1), t206, ((bt a0 (wrap64 ((a0.size : Int) - 1))) == 60))) else (none)) else (none))) else (none)))) else (none)) else (none))
mutual
def impl_ReadStock.j0 : Nat → ByteArray → Bool → Option ((List (S43)) × Bool)
  | 0, _, _ => none
  | k + 1, x0, x15 => if x15 = true then (some (([] : List (S43)), false)) else ((strings_Split.f x0 (⟨#[43]⟩ : ByteArray)).bind fun t210 => (impl_ReadStock.l0 k x0 (([] : List (S43))) t210 (t210.length : Int) 0))
def impl_ReadStock.l0 : Nat → ByteArray → List (S43) → List ByteArray → Int → Int → Option ((List (S43)) × Bool)
  | 0, _, _, _, _, _ => none
  | k + 1, x0, x4, x18, x19, x20 => if x20 < x19 then (if 0 ≤ x20 then (if x20 < (x18.length : Int) then ((impl_readUnit.f k (rdOf ByteArray.empty x18 x20)).bind fun bt214 => (if x4.length < 4398046511104 then (impl_ReadStock.l0 k x0 (x4 ++ [(⟨bt214.1, bt214.2.1, bt214.2.2.1, bt214.2.2.2⟩ : S43)]) x18 x19 (wrap64 (x20 + 1))) else (none))) else (none)) else (none)) else ((impl_StockText.f k x4).bind fun t221 => (if t221.toList = x0.toList then (some (x4, true)) else (some (([] : List (S43)), false))))
end
def impl_ReadStock.f (k : Nat) (a0 : ByteArray) : Option ((List (S43)) × Bool) := if a0.toList = ([45] : List UInt8) then (some (([] : List (S43)), true)) else (if a0.toList = ([] : List UInt8) then (impl_ReadStock.j0 k a0 true) else (impl_ReadStock.j0 k a0 (decide ((a0.size : Int) > 120))))
def laws_markUnitS.l0 : Nat → List (S43) → Int → Int → Option (Int × (List (S43)))
  | 0, _, _, _ => none
  | k + 1, x0, x1, x5 => if x5 < (x0.length : Int) then (if 0 ≤ x5 then ((some (x0.set (x5 : Int).toNat (⟨x1, (rd_T43 x0 x5).f1, (rd_T43 x0 x5).f2, (rd_T43 x0 x5).f3⟩ : S43) : List (S43))).bind fun y222 => ((some (y222.set (x5 : Int).toNat (⟨(rd_T43 y222 x5).f0, wrap64 (x1 + 1), (rd_T43 y222 x5).f2, (rd_T43 y222 x5).f3⟩ : S43) : List (S43))).bind fun y223 => ((some (y223.set (x5 : Int).toNat (⟨(rd_T43 y223 x5).f0, (rd_T43 y223 x5).f1, wrap64 ((wrap64 (x1 + 1)) + 1), (rd_T43 y223 x5).f3⟩ : S43) : List (S43))).bind fun y224 => (laws_markUnitS.l0 k (y224.set (x5 : Int).toNat (⟨(rd_T43 y224 x5).f0, (rd_T43 y224 x5).f1, (rd_T43 y224 x5).f2, ((Int.tmod (wrap64 ((wrap64 ((wrap64 (x1 + 1)) + 1)) + 1)) 3) == 0)⟩ : S43)) (wrap64 ((wrap64 ((wrap64 ((wrap64 (x1 + 1)) + 1)) + 1)) + 1)) (wrap64 (x5 + 1)))))) else (none)) else (some (x1, x0))
def laws_markUnitS.f (k : Nat) (l0 : List (S43)) (a1 : Int) : Option (Int × (List (S43))) := laws_markUnitS.l0 k l0 a1 0
def laws_heldUnitS.l0 : Nat → List (S43) → Int → Int → Option (Int)
  | 0, _, _, _ => none
  | k + 1, x0, x1, x5 => if x5 < (x0.length : Int) then (if 0 ≤ x5 then (if ((rd_T43 x0 x5).f0) = x1 then (if ((rd_T43 x0 x5).f1) = (wrap64 (x1 + 1)) then (if ((rd_T43 x0 x5).f2) = (wrap64 ((wrap64 (x1 + 1)) + 1)) then (if (((rd_T43 x0 x5).f3) != ((Int.tmod (wrap64 ((wrap64 ((wrap64 (x1 + 1)) + 1)) + 1)) 3) == 0)) = true then (some (-1)) else (laws_heldUnitS.l0 k x0 (wrap64 ((wrap64 ((wrap64 ((wrap64 (x1 + 1)) + 1)) + 1)) + 1)) (wrap64 (x5 + 1)))) else (some (-1))) else (some (-1))) else (some (-1))) else (none)) else (some x1)
def laws_heldUnitS.f (k : Nat) (l0 : List (S43)) (a1 : Int) : Option (Int) := laws_heldUnitS.l0 k l0 a1 0
mutual
def laws_FnExactReadStock.j0 : Nat → ByteArray → List (S43) → Bool → List (S43) → Bool → Option (Bool)
  | 0, _, _, _, _, _ => none
  | k + 1, x0, x3, x4, x5, x32 => if x32 = true then (some false) else ((laws_markUnitS.f k x5 1).bind fun bt239 => ((laws_heldUnitS.f k bt239.2 1).bind fun t241 => (if t241 < 0 then (some false) else (if t241 = bt239.1 then ((impl_ReadStock.f k x0).bind fun bt242 => ((laws_eqUnitS.f k bt242.1 x3).bind fun t246 => (if t246 = true then (laws_FnExactReadStock.j1 k bt239.2 bt239.1 (bt242.2 != x4)) else (laws_FnExactReadStock.j1 k bt239.2 bt239.1 true)))) else (some false)))))
def laws_FnExactReadStock.j1 : Nat → List (S43) → Int → Bool → Option (Bool)
  | 0, _, _, _ => none
  | k + 1, x5, x7, x57 => if x57 = true then (some false) else ((laws_heldUnitS.f k x5 1).bind fun t247 => (if t247 < 0 then (some false) else (if t247 = x7 then (some true) else (some false))))
end
def laws_FnExactReadStock.f (k : Nat) (a0 : ByteArray) : Option (Bool) := if (a0.size : Int) > 1048576 then (some true) else ((spec_ReadStock.f k a0).bind fun bt230 => ((impl_ReadStock.f k a0).bind fun bt234 => ((laws_eqUnitS.f k bt234.1 bt230.1).bind fun t238 => (if t238 = true then (laws_FnExactReadStock.j0 k a0 bt230.1 bt230.2 bt234.1 (bt234.2 != bt230.2)) else (laws_FnExactReadStock.j0 k a0 bt230.1 bt230.2 bt234.1 true)))))
def laws_FnExactReadStock.Pure : Prop := ∀ (a0 : ByteArray), a0.size ≤ 140737488351232 → ∃ k, laws_FnExactReadStock.f k a0 = some true
def laws_big.f (l0 : List Int) : Option (Bool) := some (decide ((l0.length : Int) > 1048576))
def spec_l01New.l0 : Nat → List Int → Int → Int → Option (List Int × Int × Int)
  | 0, _, _, _ => none
  | k + 1, x0, x3, x4 => if x4 < (x0.length : Int) then (if x4 < 4000 then (if 0 ≤ x4 then (spec_l01New.l0 k x0 (Go.bits .and .i64 (wrap64 ((wrap64 ((wrap64 (x3 * 137)) + (wrap64 (rd x0 x4)))) + 11)) 1073741823) (wrap64 (x4 + 1))) else (none)) else (some (x0, 0, x3))) else (some (x0, 0, x3))
def spec_l01New.f (k : Nat) (l0 : List Int) : Option (List Int × Int × Int) := spec_l01New.l0 k l0 (wrap64 (75075 + (l0.length : Int))) 0
def spec_l01Byte.f (s0_0 : List Int) (s0_1 : Int) (s0_2 : Int) : Option (Int × Int × Int) := if s0_1 < (s0_0.length : Int) then (if 0 ≤ s0_1 then (some (Go.bits .and .i64 (wrap64 ((Go.bits .and .i64 (Go.bits .xor .i64 ((wrap64 ((wrap64 (s0_2 * 6364136223846793005)) + 1442695040888963407)) / 8589934592) ((wrap64 ((wrap64 (s0_2 * 6364136223846793005)) + 1442695040888963407)) / 35184372088832)) 255) + (wrap64 (rd s0_0 s0_1)))) 255, wrap64 (s0_1 + 1), wrap64 ((wrap64 (s0_2 * 6364136223846793005)) + 1442695040888963407))) else (none)) else (some (Go.bits .and .i64 (Go.bits .xor .i64 ((wrap64 ((wrap64 (s0_2 * 6364136223846793005)) + 1442695040888963407)) / 8589934592) ((wrap64 ((wrap64 (s0_2 * 6364136223846793005)) + 1442695040888963407)) / 35184372088832)) 255, s0_1, wrap64 ((wrap64 (s0_2 * 6364136223846793005)) + 1442695040888963407)))
def spec_l01Below.f (s0_0 : List Int) (s0_1 : Int) (s0_2 : Int) (a1 : Int) : Option (Int × Int × Int) := if a1 ≤ 0 then (some (0, s0_1, s0_2)) else (if a1 ≤ 256 then ((spec_l01Byte.f s0_0 s0_1 s0_2).bind fun bt252 => (if a1 = 0 then (none) else (some (Int.tmod bt252.1 a1, bt252.2.1, bt252.2.2)))) else ((spec_l01Byte.f s0_0 s0_1 s0_2).bind fun bt255 => ((spec_l01Byte.f s0_0 bt255.2.1 bt255.2.2).bind fun bt258 => ((spec_l01Byte.f s0_0 bt258.2.1 bt258.2.2).bind fun bt261 => (if a1 = 0 then (none) else (some (Int.tmod (wrap64 ((wrap64 ((wrap64 (bt255.1 * 65536)) + (wrap64 (bt258.1 * 256)))) + bt261.1)) a1, bt261.2.1, bt261.2.2)))))))
def spec_l01Once.f (s0_0 : List Int) (s0_1 : Int) (s0_2 : Int) (a1 : Int) : Option (Bool × Int × Int) := (spec_l01Below.f s0_0 s0_1 s0_2 a1).bind fun bt264 => (some ((bt264.1 == 0), bt264.2.1, bt264.2.2))
def spec_l15DrawRight.l0 : Nat → Int → Int → Bool → List (S43) → Int → Int → List Int → Int → Int → Option ((List (S43)) × Int × Int)
  | 0, _, _, _, _, _, _, _, _, _ => none
  | k + 1, x1, x2, x3, x9, x10, x11, x1000, x1001, x1002 => if x11 < x1 then (if x3 = true then ((spec_l01Below.f x1000 x1001 x1002 3).bind fun bt273 => ((spec_l01Below.f x1000 bt273.2.1 bt273.2.2 40).bind fun bt276 => ((spec_l01Once.f x1000 bt276.2.1 bt276.2.2 3).bind fun bt279 => (if x9.length < 4398046511104 then (spec_l15DrawRight.l0 k x1 x2 x3 (x9 ++ [(⟨wrap64 ((wrap64 (x2 + (wrap64 (x11 * 3)))) + bt273.1), x10, wrap64 (10 + bt276.1), bt279.1⟩ : S43)]) x10 (wrap64 (x11 + 1)) x1000 bt279.2.1 bt279.2.2) else (none))))) else ((spec_l01Below.f x1000 x1001 x1002 9).bind fun bt285 => ((spec_l01Below.f x1000 bt285.2.1 bt285.2.2 3).bind fun bt288 => ((spec_l01Below.f x1000 bt288.2.1 bt288.2.2 40).bind fun bt291 => ((spec_l01Once.f x1000 bt291.2.1 bt291.2.2 3).bind fun bt294 => (if x9.length < 4398046511104 then (spec_l15DrawRight.l0 k x1 x2 x3 (x9 ++ [(⟨wrap64 ((wrap64 (x2 + (wrap64 (x11 * 3)))) + bt288.1), wrap64 (1 + bt285.1), wrap64 (10 + bt291.1), bt294.1⟩ : S43)]) (wrap64 (1 + bt285.1)) (wrap64 (x11 + 1)) x1000 bt294.2.1 bt294.2.2) else (none))))))) else (some (x9, x1001, x1002))
def spec_l15DrawRight.f (k : Nat) (s0_0 : List Int) (s0_1 : Int) (s0_2 : Int) (a1 : Int) (a2 : Int) (a3 : Bool) : Option ((List (S43)) × Int × Int) := (spec_l01Below.f s0_0 s0_1 s0_2 9).bind fun bt270 => (spec_l15DrawRight.l0 k a1 a2 a3 (([] : List (S43))) (wrap64 (1 + bt270.1)) 0 s0_0 bt270.2.1 bt270.2.2)
def spec_l01Size.f (l0 : List Int) (a1 : Int) : Option (Int) := if (wrap64 (2 + (wrap64 ((l0.length : Int) / 16)))) > a1 then (some a1) else (some (wrap64 (2 + (wrap64 ((l0.length : Int) / 16)))))
def spec_DrawRightForm.f (k : Nat) (l0 : List Int) : Option ((List (S43))) := (spec_l01New.f k l0).bind fun bt300 => ((spec_l01Size.f l0 7).bind fun t304 => ((spec_l01Below.f bt300.1 bt300.2.1 bt300.2.2 t304).bind fun bt305 => ((spec_l01Below.f bt300.1 bt305.2.1 bt305.2.2 90).bind fun bt308 => ((spec_l01Once.f bt300.1 bt308.2.1 bt308.2.2 2).bind fun bt311 => ((spec_l15DrawRight.f k bt300.1 bt311.2.1 bt311.2.2 bt305.1 (wrap64 (1 + bt308.1)) bt311.1).bind fun bt314 => (some bt314.1))))))
def laws_at.f (l0 : List Int) (a1 : Int) : Option (Int) := if a1 < (l0.length : Int) then (if 0 ≤ a1 then (some (wrap64 (rd l0 a1))) else (none)) else (some (Int.tmod (wrap64 ((wrap64 (a1 * 11)) + (wrap64 ((l0.length : Int) * 3)))) 256))
def impl_joined.f (l0 : List (S43)) (l1 : List (S43)) : Option ((List (S43))) := (some (([] : List (S43)) : List (S43))).bind fun y320 => (if y320.length + l0.length < 4398046511104 then ((some (y320 ++ l0 : List (S43))).bind fun y323 => (if y323.length + l1.length < 4398046511104 then (some (y323 ++ l1)) else (none))) else (none))
def impl_Part.j0 : Nat → List (S43) → Int → Bool → Option ((List (S43)) × (List (S43)))
  | 0, _, _, _ => none
  | k + 1, x0, x1, x15 => if x15 = true then (some (([] : List (S43)), ([] : List (S43)))) else (if 0 ≤ x1 then (if x1 ≤ (x0.length : Int) then ((impl_joined.f (x0.take (x1 : Int).toNat) ([] : List (S43))).bind fun t335 => ((impl_joined.f (x0.drop (x1 : Int).toNat) ([] : List (S43))).bind fun t342 => (some (t335, t342)))) else (none)) else (none))
def impl_Part.f (k : Nat) (l0 : List (S43)) (a1 : Int) : Option ((List (S43)) × (List (S43))) := (impl_FormOk.f l0).bind fun t329 => (if t329 = true then ((impl_between.f a1 0 (l0.length : Int)).bind fun t330 => (impl_Part.j0 k l0 a1 (!t330))) else (impl_Part.j0 k l0 a1 true))
def impl_Unit_54.l0 : Nat → List (S43) → Int → Int → Option ((List (S43)))
  | 0, _, _, _ => none
  | k + 1, x0, x2, x3 => if x2 < x3 then (if 0 ≤ x3 then (if x3 < (x0.length : Int) then (if 0 ≤ x2 then (if x2 < (x0.length : Int) then (impl_Unit_54.l0 k ((x0.set (x2 : Int).toNat (⟨(rd_T43 x0 x3).f0, (rd_T43 x0 x3).f1, (rd_T43 x0 x3).f2, (rd_T43 x0 x3).f3⟩ : S43)).set (x3 : Int).toNat (⟨(rd_T43 x0 x2).f0, (rd_T43 x0 x2).f1, (rd_T43 x0 x2).f2, (rd_T43 x0 x2).f3⟩ : S43)) (wrap64 (x2 + 1)) (wrap64 (x3 - 1))) else (none)) else (none)) else (none)) else (none)) else (some x0)
def impl_Unit_54.f (k : Nat) (l0 : List (S43)) : Option ((List (S43))) := impl_Unit_54.l0 k l0 0 (wrap64 ((l0.length : Int) - 1))
def impl_turned.l0 : Nat → List (S43) → Int → Int → Option ((List (S43)))
  | 0, _, _, _ => none
  | k + 1, x3, x10, x11 => if x11 < x10 then (if 0 ≤ x11 then (if x11 < (x3.length : Int) then (impl_turned.l0 k (x3.set (x11 : Int).toNat (⟨(rd_T43 x3 x11).f0, (rd_T43 x3 x11).f1, (rd_T43 x3 x11).f2, !((rd_T43 x3 x11).f3)⟩ : S43)) x10 (wrap64 (x11 + 1))) else (none)) else (none)) else (some x3)
def impl_turned.f (k : Nat) (l0 : List (S43)) : Option ((List (S43))) := (impl_joined.f l0 ([] : List (S43))).bind fun t349 => ((impl_Unit_54.f k t349).bind fun t352 => (impl_turned.l0 k t352 (t349.length : Int) 0))
def impl_Turn.f (k : Nat) (l0 : List (S43)) : Option ((List (S43))) := (impl_FormOk.f l0).bind fun t355 => (if t355 = true then ((impl_turned.f k l0).bind fun t356 => (some t356)) else (some ([] : List (S43))))
def laws_sameUnits.l0 : Nat → List (S43) → List (S43) → Int → Option (Bool)
  | 0, _, _, _ => none
  | k + 1, x0, x1, x5 => if x5 < (x0.length : Int) then (if 0 ≤ x5 then (if x5 < (x1.length : Int) then (if (!(((rd_T43 x0 x5).f0) == ((rd_T43 x1 x5).f0)) || (!(((rd_T43 x0 x5).f1) == ((rd_T43 x1 x5).f1)) || (!(((rd_T43 x0 x5).f2) == ((rd_T43 x1 x5).f2)) || (!(((rd_T43 x0 x5).f3) == ((rd_T43 x1 x5).f3)))))) = true then (some false) else (laws_sameUnits.l0 k x0 x1 (wrap64 (x5 + 1)))) else (none)) else (none)) else (some true)
def laws_sameUnits.f (k : Nat) (l0 : List (S43)) (l1 : List (S43)) : Option (Bool) := if (l0.length : Int) = (l1.length : Int) then (laws_sameUnits.l0 k l0 l1 0) else (some false)
def impl_FormLen.l0 : Nat → Int → List (S43) → Int → Int → Option (Int)
  | 0, _, _, _, _ => none
  | k + 1, x3, x9, x10, x11 => if x11 < x10 then (if 0 ≤ x11 then (if x11 < (x9.length : Int) then (impl_FormLen.l0 k (wrap64 (x3 + ((rd_T43 x9 x11).f2))) x9 x10 (wrap64 (x11 + 1))) else (none)) else (none)) else (some x3)
def impl_FormLen.f (k : Nat) (l0 : List (S43)) : Option (Int) := (impl_FormOk.f l0).bind fun t361 => (if t361 = true then (impl_FormLen.l0 k 0 l0 (l0.length : Int) 0) else (some (-1)))
def impl_Fitting.f (a0_0 : Int) (a0_1 : Int) (a0_2 : Int) (a0_3 : Bool) (a1_0 : Int) (a1_1 : Int) (a1_2 : Int) (a1_3 : Bool) : Option (Bool) := if a0_1 = a1_1 then (some true) else (if a0_1 ≤ 3 then (if a1_1 ≤ 3 then (some true) else (if a0_1 > 6 then (some (decide (a1_1 > 6))) else (some false))) else (if a0_1 > 6 then (some (decide (a1_1 > 6))) else (some false)))
mutual
def impl_Runnable.j0 : Nat → List (S43) → Bool → Option (Bool)
  | 0, _, _ => none
  | k + 1, x0, x11 => if x11 = true then (some false) else (impl_Runnable.l0 k x0 1)
def impl_Runnable.l0 : Nat → List (S43) → Int → Option (Bool)
  | 0, _, _ => none
  | k + 1, x0, x3 => if x3 < (x0.length : Int) then (if 0 ≤ (wrap64 (x3 - 1)) then (if (wrap64 (x3 - 1)) < (x0.length : Int) then (if 0 ≤ x3 then ((impl_Fitting.f ((rd_T43 x0 (wrap64 (x3 - 1))).f0) ((rd_T43 x0 (wrap64 (x3 - 1))).f1) ((rd_T43 x0 (wrap64 (x3 - 1))).f2) ((rd_T43 x0 (wrap64 (x3 - 1))).f3) ((rd_T43 x0 x3).f0) ((rd_T43 x0 x3).f1) ((rd_T43 x0 x3).f2) ((rd_T43 x0 x3).f3)).bind fun t369 => (if t369 = true then (impl_Runnable.l0 k x0 (wrap64 (x3 + 1))) else (some false))) else (none)) else (none)) else (none)) else (some true)
end
def impl_Runnable.f (k : Nat) (l0 : List (S43)) : Option (Bool) := (impl_FormOk.f l0).bind fun t366 => (if t366 = true then (impl_Runnable.j0 k l0 ((l0.length : Int) == 0)) else (impl_Runnable.j0 k l0 true))
mutual
def laws_FnStock.j0 : Nat → List (S43) → List (S43) → List (S43) → List (S43) → Bool → Option (Bool)
  | 0, _, _, _, _, _ => none
  | k + 1, x3, x5, x6, x8, x63 => if x63 = true then (some false) else ((impl_FormLen.f k x3).bind fun t399 => ((impl_FormLen.f k x5).bind fun t400 => ((impl_FormLen.f k x6).bind fun t401 => (if t399 = (wrap64 (t400 + t401)) then ((impl_FormLen.f k x8).bind fun t402 => ((impl_FormLen.f k x3).bind fun t403 => (if t402 = t403 then ((impl_Runnable.f k x8).bind fun t404 => ((impl_Runnable.f k x3).bind fun t405 => (laws_FnStock.j1 k x3 x8 (t404 != t405)))) else (laws_FnStock.j1 k x3 x8 true)))) else (laws_FnStock.j1 k x3 x8 true)))))
def laws_FnStock.j1 : Nat → List (S43) → List (S43) → Bool → Option (Bool)
  | 0, _, _, _ => none
  | k + 1, x3, x8, x85 => if x85 = true then (some false) else (if (x3.length : Int) > 0 then (if 0 < (x8.length : Int) then (if 0 ≤ (wrap64 ((x3.length : Int) - 1)) then (if (wrap64 ((x3.length : Int) - 1)) < (x3.length : Int) then (if ((rd_T43 x8 0).f0) = ((rd_T43 x3 (wrap64 ((x3.length : Int) - 1))).f0) then (laws_FnStock.j2 k x3 (((rd_T43 x8 0).f3) == ((rd_T43 x3 (wrap64 ((x3.length : Int) - 1))).f3))) else (laws_FnStock.j2 k x3 true)) else (none)) else (none)) else (none)) else (laws_FnStock.j2 k x3 false))
def laws_FnStock.j2 : Nat → List (S43) → Bool → Option (Bool)
  | 0, _, _ => none
  | k + 1, x3, x116 => if x116 = true then (some false) else ((impl_StockText.f k x3).bind fun t410 => (if t410.toList = ([] : List UInt8) then ((spec_StockText.f k x3).bind fun t411 => (some (t411.toList == ([] : List UInt8)))) else ((impl_ReadStock.f k t410).bind fun bt412 => (if bt412.2 = true then ((laws_sameUnits.f k bt412.1 x3).bind fun t416 => (some t416)) else (some false)))))
end
def laws_FnStock.f (k : Nat) (l0 : List Int) : Option (Bool) := (laws_big.f l0).bind fun t370 => (if t370 = true then (some true) else ((spec_DrawRightForm.f k l0).bind fun t371 => ((laws_at.f l0 3).bind fun t374 => (if (wrap64 ((t371.length : Int) + 1)) = 0 then (none) else ((impl_Part.f k t371 (Int.tmod t374 (wrap64 ((t371.length : Int) + 1)))).bind fun bt375 => ((some (([] : List (S43)) : List (S43))).bind fun y381 => (if y381.length + bt375.1.length < 4398046511104 then ((some (y381 ++ bt375.1 : List (S43))).bind fun y384 => (if y384.length + bt375.2.length < 4398046511104 then ((impl_Turn.f k t371).bind fun t390 => ((impl_FormOk.f t371).bind fun t393 => (if t393 = true then (if (bt375.1.length : Int) = (Int.tmod t374 (wrap64 ((t371.length : Int) + 1))) then ((laws_sameUnits.f k (y384 ++ bt375.2) t371).bind fun t394 => (if t394 = true then (if (t390.length : Int) = (t371.length : Int) then ((impl_Turn.f k t390).bind fun t395 => ((laws_sameUnits.f k t395 t371).bind fun t398 => (laws_FnStock.j0 k t371 bt375.1 bt375.2 t390 (!t398)))) else (laws_FnStock.j0 k t371 bt375.1 bt375.2 t390 true)) else (laws_FnStock.j0 k t371 bt375.1 bt375.2 t390 true))) else (laws_FnStock.j0 k t371 bt375.1 bt375.2 t390 true)) else (laws_FnStock.j0 k t371 bt375.1 bt375.2 t390 true)))) else (none))) else (none))))))))
def laws_FnStock.Pure : Prop := ∀ (l0 : List Int), l0.length ≤ maxLen → l0.length * 1 ≤ 140737488351232 → (∀ x ∈ l0, (Lit.int .u8 x).wf = true) → ∃ k, laws_FnStock.f k l0 = some true
end Go.Proofs.YtnojpcmaalbdhaaDoor.P

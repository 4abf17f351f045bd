/- The text of a formation: program and reference write the same. -/
import Derived.Test.YtnojpcmaalbdhaaDoorX0
import Derived.Test.YtnojpcmaalbdhaaDoorU1
import Derived.Lib.Join
namespace Go.Proofs.YtnojpcmaalbdhaaDoor.Pure
open Go.RowKit Go.Proofs.YtnojpcmaalbdhaaDoor.P Go.Proofs.YtnojpcmaalbdhaaDoorW.PrintWords Go.Proofs.YtnojpcmaalbdhaaDoorW.PrintLast

theorem impl_form (l : List S43) : impl_FormOk.f l = some (formB l) := rfl
/-- A unit's text: its class's letter, its number, a stroke, its metres, the way it looks. -/
def clsT (u : S43) : ByteArray := ⟨#[UInt8.ofNat (64 + u.f1.toNat)]⟩
def endT (u : S43) : ByteArray := if u.f3 = true then ⟨#[60]⟩ else ⟨#[62]⟩
def ut (u : S43) : ByteArray := (((clsT u ++ dec u.f0.toNat) ++ (⟨#[47]⟩ : ByteArray)) ++ dec u.f2.toNat) ++ endT u
theorem cls_size (u : S43) : (clsT u).size = 1 := rfl
theorem end_size (u : S43) : (endT u).size = 1 := by unfold endT; split <;> rfl
theorem one47 : (⟨#[47]⟩ : ByteArray).size = 1 := rfl
theorem one43 : (⟨#[43]⟩ : ByteArray).size = 1 := rfl
theorem unit_iff {u : S43} : unitB u = true ↔ (1 ≤ u.f0 ∧ u.f0 ≤ 9999) ∧ (1 ≤ u.f1 ∧ u.f1 ≤ 9) ∧ 1 ≤ u.f2 ∧ u.f2 ≤ 200 := by
  simp only [unitB, Bool.and_eq_true, inB_iff]; exact and_assoc
theorem ut_size {u : S43} (h : unitB u = true) : (ut u).size ≤ 10300 := by
  rw [unit_iff] at h
  have a := dec_size u.f0.toNat
  have b := dec_size u.f2.toNat
  simp only [ut, ByteArray.size_append, cls_size, end_size, one47]
  omega
/-- The text of the first units. -/
def rowTo (l : List S43) : Nat → ByteArray
  | 0 => ⟨#[]⟩
  | i + 1 => (if i = 0 then rowTo l i else rowTo l i ++ (⟨#[43]⟩ : ByteArray)) ++ ut (l.getD i z43)
def rowT (l : List S43) : ByteArray := rowTo l l.length
theorem row_size {l : List S43} (h : ∀ u, u ∈ l → unitB u = true) : ∀ i, i ≤ l.length → (rowTo l i).size ≤ i * 10301
  | 0, _ => by show (⟨#[]⟩ : ByteArray).size ≤ 0; exact Nat.le_refl 0
  | i + 1, hi => by
    have ih := row_size h i (by omega)
    have hu := ut_size (h _ (getD_mem z43 l i (by omega)))
    unfold rowTo
    split <;> simp only [ByteArray.size_append, one43] <;> omega
def stockB (l : List S43) : ByteArray := if formB l = true then (if l.length = 0 then ⟨#[45]⟩ else if (rowT l).size > 120 then ⟨#[]⟩ else rowT l) else ⟨#[]⟩
theorem join_snoc (xs : List (List UInt8)) (y sep : List UInt8) (h : xs ≠ []) : Lib.join (xs ++ [y]) sep = Lib.join xs sep ++ (sep ++ y) := by
  cases xs with
  | nil => exact absurd rfl h
  | cons x r =>
    rw [List.cons_append, Lib.join_cons, Lib.join_cons]
    simp [Lib.joinTail]
theorem row_join (l : List S43) : ∀ i, i ≤ l.length → (rowTo l i).data.toList = Lib.join (((l.take i).map ut).map (·.data.toList)) [43]
  | 0, _ => by rfl
  | i + 1, hi => by
    have ih := row_join l i (by omega)
    rw [take_getD z43 l i (by omega), List.map_append, List.map_append]
    unfold rowTo
    by_cases c : i = 0
    · subst c
      rw [if_pos rfl]
      simp [rowTo, Lib.join_one, ByteArray.data_append]
    · rw [if_neg c]
      show _ = Lib.join (((l.take i).map ut).map (·.data.toList) ++ [(ut (l.getD i z43)).data.toList]) [43]
      rw [join_snoc _ _ _ (by intro h; have h2 := congrArg List.length h; rw [List.length_map, List.length_map, List.length_take, List.length_nil] at h2; omega), ← ih]
      simp only [ByteArray.data_append, Array.toList_append]
      rw [List.append_assoc]
theorem form_units {l : List S43} (h : formB l = true) : l.length ≤ 30 ∧ ∀ u, u ∈ l → unitB u = true := ⟨((formB_iff l).1 h).1, ((formB_iff l).1 h).2.1⟩
theorem cls_impl {c : Int} (h0 : 1 ≤ c) (h1 : c ≤ 9) : strOfNums [(65 + ((wrap64 (c - 1)) % 256)) % 256] = (⟨#[UInt8.ofNat (64 + c.toNat)]⟩ : ByteArray) := by
  have e : (65 + ((wrap64 (c - 1)) % 256)) % 256 = ((64 + c.toNat : Nat) : Int) := by rw [w64 (by omega) (by omega)]; omega
  rw [e]; unfold strOfNums; rw [List.map_cons, List.map_nil, Int.toNat_natCast]
theorem cls_spec {c : Int} (h0 : 1 ≤ c) (h1 : c ≤ 9) : strOfNums [(wrap64 (64 + c)) % 256] = (⟨#[UInt8.ofNat (64 + c.toNat)]⟩ : ByteArray) := by
  have e : (wrap64 (64 + c)) % 256 = ((64 + c.toNat : Nat) : Int) := by rw [w64 (by omega) (by omega)]; omega
  rw [e]; unfold strOfNums; rw [List.map_cons, List.map_nil, Int.toNat_natCast]
theorem rd43 (l : List S43) (i : Nat) : rd_T43 l (i : Int) = l.getD i z43 := rfl
theorem impl_stock (l : List S43) : Ev (fun k => impl_StockText.f k l) (stockB l) := by
  unfold impl_StockText.f stockB
  simp only [impl_form, Option.bind_some]
  cases hF : formB l with
  | false => exact Ev.now _
  | true =>
    simp only [if_true]
    obtain ⟨h30, hu⟩ := form_units hF
    by_cases c : l.length = 0
    · have c' : (l.length : Int) = 0 := by omega
      simp only [c, Int.natCast_zero, if_true]
      exact Ev.now _
    · have c' : ¬ (l.length : Int) = 0 := by omega
      simp only [c', c, if_false]
      have h1 : (0 : Int) ≤ (l.length : Int) := by omega
      simp only [h1, if_true, Int.toNat_natCast, show l.length ≤ 17592186044416 by omega]
      have hj : (strings_Join.f (l.map ut) (⟨#[43]⟩ : ByteArray)) = some (rowT l) := by
        have e := row_join l l.length (Nat.le_refl _)
        rw [List.take_length] at e
        have hs := row_size hu l.length (Nat.le_refl _)
        unfold strings_Join.f
        have e2 : (⟨#[43]⟩ : ByteArray).data.toList = [43] := rfl
        rw [e2, ← e, if_pos ⟨by rw [List.length_map]; omega, by rw [List.length_map]; omega, by
          have : (rowTo l l.length).data.toList.length = (rowTo l l.length).size := by rw [Array.length_toList]; rfl
          rw [this]; omega⟩]
        rfl
      have key : ∀ i, i ≤ l.length → ∀ ps : List ByteArray, ps.length = l.length → (∀ j, j < i → ps.getD j ⟨#[]⟩ = ut (l.getD j z43)) → Ev (fun k => impl_StockText.l0 k ps l l.length i) (if (rowT l).size > 120 then ⟨#[]⟩ else rowT l) := by
        refine down l.length ?_ ?_
        · intro ps hps hall
          have hps2 : ps = l.map ut := by
            apply List.ext_getElem
            · rw [List.length_map, hps]
            · intro j h1 h2
              have := hall j (by omega)
              rw [List.getElem_map]
              simpa [List.getD_eq_getElem?_getD, List.getElem?_eq_getElem h1, List.getElem?_eq_getElem (show j < l.length by omega)] using this
          refine ev_some (fun k => ?_)
          simp only [impl_StockText.l0]
          rw [if_neg (by omega), hps2, hj, Option.bind_some]
          by_cases c2 : (rowT l).size > 120
          · rw [if_pos (by omega), if_pos c2]
          · rw [if_neg (by omega), if_neg c2]
        · intro i hi ih ps hps hall
          have hu1 := hu _ (getD_mem z43 l i hi)
          obtain ⟨u1, u2, u3⟩ := unit_iff.1 hu1
          have a := dec_size (l.getD i z43).f0.toNat
          have b := dec_size (l.getD i z43).f2.toNat
          refine ev_at (ih (ps.set i (ut (l.getD i z43))) (by rw [List.length_set]; exact hps) (fun j hj => ?_)) (fun k => ?_)
          · by_cases e : j = i
            · subst e
              simp [List.getD_eq_getElem?_getD, hps, hi]
            · have := hall j (by omega)
              rw [List.getD_eq_getElem?_getD, List.getElem?_set, if_neg (by omega), ← List.getD_eq_getElem?_getD]
              exact this
          · simp only [impl_StockText.l0]
            have s1 : (⟨#[UInt8.ofNat (64 + (l.getD i z43).f1.toNat)]⟩ : ByteArray).size = 1 := rfl
            rw [rd43, if_pos (by omega), if_pos (by omega), if_pos (by omega)]
            unfold ut clsT endT
            by_cases c3 : (l.getD i z43).f3 = true
            · rw [if_pos c3, if_pos c3]
              rw [Option.bind_some, cls_impl u2.1 u2.2, itoa_dec (by omega) (by omega), itoa_dec (by omega) (by omega), Option.bind_some, Option.bind_some]
              rw [if_pos (show (⟨#[UInt8.ofNat (64 + (l.getD i z43).f1.toNat)]⟩ : ByteArray).size + (dec (l.getD i z43).f0.toNat).size ≤ 9223372036854775807 by omega), if_pos (show (⟨#[UInt8.ofNat (64 + (l.getD i z43).f1.toNat)]⟩ ++ dec (l.getD i z43).f0.toNat : ByteArray).size + 1 ≤ 9223372036854775807 by rw [ByteArray.size_append]; omega)]
              rw [if_pos (show ((⟨#[UInt8.ofNat (64 + (l.getD i z43).f1.toNat)]⟩ ++ dec (l.getD i z43).f0.toNat) ++ (⟨#[47]⟩ : ByteArray)).size + (dec (l.getD i z43).f2.toNat).size ≤ 9223372036854775807 by simp only [ByteArray.size_append, one47]; omega)]
              rw [if_pos (show (((⟨#[UInt8.ofNat (64 + (l.getD i z43).f1.toNat)]⟩ ++ dec (l.getD i z43).f0.toNat) ++ (⟨#[47]⟩ : ByteArray)) ++ dec (l.getD i z43).f2.toNat).size + 1 ≤ 9223372036854775807 by simp only [ByteArray.size_append, one47]; omega)]
              rw [if_pos (show (i : Int) < (ps.length : Int) by omega), w64s hi (by omega), Int.toNat_natCast]
            · rw [if_neg c3, if_neg c3]
              rw [Option.bind_some, cls_impl u2.1 u2.2, itoa_dec (by omega) (by omega), itoa_dec (by omega) (by omega), Option.bind_some, Option.bind_some]
              rw [if_pos (show (⟨#[UInt8.ofNat (64 + (l.getD i z43).f1.toNat)]⟩ : ByteArray).size + (dec (l.getD i z43).f0.toNat).size ≤ 9223372036854775807 by omega), if_pos (show (⟨#[UInt8.ofNat (64 + (l.getD i z43).f1.toNat)]⟩ ++ dec (l.getD i z43).f0.toNat : ByteArray).size + 1 ≤ 9223372036854775807 by rw [ByteArray.size_append]; omega)]
              rw [if_pos (show ((⟨#[UInt8.ofNat (64 + (l.getD i z43).f1.toNat)]⟩ ++ dec (l.getD i z43).f0.toNat) ++ (⟨#[47]⟩ : ByteArray)).size + (dec (l.getD i z43).f2.toNat).size ≤ 9223372036854775807 by simp only [ByteArray.size_append, one47]; omega)]
              rw [if_pos (show (((⟨#[UInt8.ofNat (64 + (l.getD i z43).f1.toNat)]⟩ ++ dec (l.getD i z43).f0.toNat) ++ (⟨#[47]⟩ : ByteArray)) ++ dec (l.getD i z43).f2.toNat).size + 1 ≤ 9223372036854775807 by simp only [ByteArray.size_append, one47]; omega)]
              rw [if_pos (show (i : Int) < (ps.length : Int) by omega), w64s hi (by omega), Int.toNat_natCast]
      exact key 0 (Nat.zero_le _) _ (by rw [List.length_replicate]) (fun j hj => by omega)
theorem spec_stock (l : List S43) : Ev (fun k => spec_StockText.f k l) (stockB l) := by
  unfold spec_StockText.f stockB
  refine Ev.bind (spec_form l) ?_
  cases hF : formB l with
  | false => exact Ev.now _
  | true =>
    simp only [if_true]
    obtain ⟨h30, hu⟩ := form_units hF
    by_cases c : l.length = 0
    · have c' : (l.length : Int) = 0 := by omega
      simp only [c, if_true]
      exact Ev.now _
    · have c' : ¬ (l.length : Int) = 0 := by omega
      simp only [c', c, if_false]
      have key : ∀ i, i ≤ l.length → Ev (fun k => spec_StockText.l0 k l (rowTo l i) i) (if (rowT l).size > 120 then ⟨#[]⟩ else rowT l) := by
        refine down l.length ?_ ?_
        · refine ev_some (fun k => ?_)
          simp only [spec_StockText.l0]
          rw [if_neg (by omega)]
          show (if ((rowT l).size : Int) > 120 then _ else _) = _
          by_cases c2 : (rowT l).size > 120
          · rw [if_pos (by omega), if_pos c2]
          · rw [if_neg (by omega), if_neg c2]; rfl
        · intro i hi ih
          have hu1 := hu _ (getD_mem z43 l i hi)
          obtain ⟨u1, u2, u3⟩ := unit_iff.1 hu1
          have a := dec_size (l.getD i z43).f0.toNat
          have b := dec_size (l.getD i z43).f2.toNat
          have sz := row_size hu i (by omega)
          have na := spec_num (a := (l.getD i z43).f0) (by omega) (by omega)
          have nb := spec_num (a := (l.getD i z43).f2) (by omega) (by omega)
          have go : ∀ acc : ByteArray, acc.size ≤ 1000000 → acc ++ ut (l.getD i z43) = rowTo l (i + 1) → Ev (fun k => spec_StockText.j1 k l acc i) (if (rowT l).size > 120 then ⟨#[]⟩ else rowT l) := by
            intro acc ha he
            have s1 := cls_size (l.getD i z43)
            refine Ev.step (f := fun k => (spec_l01Num.f k (l.getD i z43).f0).bind fun t119 => (if (acc ++ clsT (l.getD i z43)).size + t119.size ≤ 9223372036854775807 then (if ((acc ++ clsT (l.getD i z43)) ++ t119).size + 1 ≤ 9223372036854775807 then ((spec_l01Num.f k (l.getD i z43).f2).bind fun t121 => (if (((acc ++ clsT (l.getD i z43)) ++ t119) ++ (⟨#[47]⟩ : ByteArray)).size + t121.size ≤ 9223372036854775807 then (if ((((acc ++ clsT (l.getD i z43)) ++ t119) ++ (⟨#[47]⟩ : ByteArray)) ++ t121).size + 1 ≤ 9223372036854775807 then spec_StockText.l0 k l (((((acc ++ clsT (l.getD i z43)) ++ t119) ++ (⟨#[47]⟩ : ByteArray)) ++ t121) ++ endT (l.getD i z43)) ((i + 1 : Nat) : Int) else none) else none)) else none) else none)) (fun k => ?_) (Ev.bind na ?_)
            · simp only [spec_StockText.j1]
              rw [rd43, if_pos (by omega), if_pos (by omega), Option.bind_some, cls_spec u2.1 u2.2, w64s hi (by omega)]
              have s2 : (⟨#[UInt8.ofNat (64 + (l.getD i z43).f1.toNat)]⟩ : ByteArray).size = 1 := rfl
              rw [if_pos (by omega)]
              unfold clsT endT
              by_cases c3 : (l.getD i z43).f3 = true
              · simp only [c3, if_true]
              · have c3' : (l.getD i z43).f3 = false := by simpa using c3
                simp only [c3', Bool.false_eq_true, if_false]
            · have q1 : (acc ++ clsT (l.getD i z43)).size + (dec (l.getD i z43).f0.toNat).size ≤ 9223372036854775807 := by simp only [ByteArray.size_append]; omega
              have q2 : ((acc ++ clsT (l.getD i z43)) ++ dec (l.getD i z43).f0.toNat).size + 1 ≤ 9223372036854775807 := by simp only [ByteArray.size_append]; omega
              simp only [q1, q2, if_true]
              refine Ev.bind nb ?_
              have q3 : (((acc ++ clsT (l.getD i z43)) ++ dec (l.getD i z43).f0.toNat) ++ (⟨#[47]⟩ : ByteArray)).size + (dec (l.getD i z43).f2.toNat).size ≤ 9223372036854775807 := by simp only [ByteArray.size_append, one47]; omega
              have q4 : ((((acc ++ clsT (l.getD i z43)) ++ dec (l.getD i z43).f0.toNat) ++ (⟨#[47]⟩ : ByteArray)) ++ dec (l.getD i z43).f2.toNat).size + 1 ≤ 9223372036854775807 := by simp only [ByteArray.size_append, one47]; omega
              simp only [q3, q4, if_true]
              have e : (((((acc ++ clsT (l.getD i z43)) ++ dec (l.getD i z43).f0.toNat) ++ (⟨#[47]⟩ : ByteArray)) ++ dec (l.getD i z43).f2.toNat) ++ endT (l.getD i z43)) = rowTo l (i + 1) := by
                rw [← he]; simp only [ut, ByteArray.append_assoc]
              rw [e]
              exact ih
          by_cases c4 : i = 0
          · subst c4
            refine ev_at (go (rowTo l 0) (by omega) rfl) (fun k => ?_)
            simp only [spec_StockText.l0]
            rw [if_pos (by omega), if_neg (by omega)]
          · refine ev_at (go (rowTo l i ++ (⟨#[43]⟩ : ByteArray)) (by rw [ByteArray.size_append, one43]; omega) (by rw [rowTo, if_neg c4])) (fun k => ?_)
            simp only [spec_StockText.l0]
            rw [if_pos (by omega), if_pos (by omega), if_pos (by omega)]
      exact key 0 (Nat.zero_le _)
end Go.Proofs.YtnojpcmaalbdhaaDoor.Pure

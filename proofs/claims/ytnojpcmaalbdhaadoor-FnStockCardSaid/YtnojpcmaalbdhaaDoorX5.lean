/- A formation's text read: program and reference read the same. -/
import Derived.Test.YtnojpcmaalbdhaaDoorX4
namespace Go.Proofs.YtnojpcmaalbdhaaDoor.Pure
open Go.RowKit Go.Proofs.YtnojpcmaalbdhaaDoor.P Go.Proofs.YtnojpcmaalbdhaaDoorW.PrintWords Go.Proofs.YtnojpcmaalbdhaaDoorW.PrintLast

theorem loop_eq (bs : ByteArray) (d : Nat) : ∀ i r, i + d = bs.size → ByteArray.toList.loop bs i r = r.reverse ++ bs.data.toList.drop i := by
  induction d with
  | zero =>
    intro i r h
    rw [ByteArray.toList.loop, if_neg (by omega), List.drop_of_length_le (by rw [dlen]; omega), List.append_nil]
  | succ d ih =>
    intro i r h
    have hi : i < bs.data.toList.length := by rw [dlen]; omega
    rw [ByteArray.toList.loop, if_pos (by omega), ih (i + 1) _ (by omega), List.drop_eq_getElem_cons hi]
    have e : bs.get! i = bs.data.toList[i] := by
      show bs.data[i]! = _
      rw [getElem!_pos bs.data i (by have := dlen bs; rw [Array.length_toList] at this; rw [this]; omega)]
      simp
    rw [e]; simp
theorem list_of (bs : ByteArray) : bs.toList = bs.data.toList := by
  unfold ByteArray.toList
  rw [loop_eq bs bs.size 0 [] (by omega)]; simp
theorem list_inj {a b : ByteArray} : a.toList = b.toList ↔ a = b := ⟨fun h => data_inj (by rw [← list_of, ← list_of]; exact h), fun h => by rw [h]⟩
def Good (t : ByteArray) (l : List S43) : Prop := formB l = true ∧ l ≠ [] ∧ rowT l = t ∧ t.size ≤ 120
theorem good_stock {t : ByteArray} {l : List S43} (h : Good t l) : stockB l = t := by
  obtain ⟨h1, h2, h3, h4⟩ := h
  unfold stockB
  rw [if_pos h1, if_neg (by rw [List.length_eq_zero_iff]; exact h2), h3, if_neg (by omega)]
theorem stock_good {t : ByteArray} {l : List S43} (h : stockB l = t) (h1 : t ≠ ⟨#[45]⟩) (h2 : t ≠ ⟨#[]⟩) : Good t l := by
  unfold stockB at h
  by_cases c : formB l = true
  · rw [if_pos c] at h
    by_cases c2 : l.length = 0
    · rw [if_pos c2] at h; exact absurd h.symm h1
    · rw [if_neg c2] at h
      by_cases c3 : (rowT l).size > 120
      · rw [if_pos c3] at h; exact absurd h.symm h2
      · rw [if_neg c3] at h
        exact ⟨c, fun e => c2 (by rw [e]; rfl), h, by rw [← h]; omega⟩
  · rw [if_neg c] at h; exact absurd h.symm h2
theorem good_join {t : ByteArray} {l : List S43} (h : Good t l) : t.data.toList = Lib.join ((l.map ut).map (·.data.toList)) [43] ∧ (∀ p, p ∈ l.map ut → (43 : UInt8) ∉ p.data.toList) ∧ l.map ut ≠ [] ∧ ∀ u, u ∈ l → unitB u = true := by
  obtain ⟨h1, h2, h3, h4⟩ := h
  have hu := (form_units h1).2
  have := row_join l l.length (Nat.le_refl _)
  rw [List.take_length] at this
  refine ⟨by rw [← h3]; exact this, fun p hp => ?_, by simpa using h2, hu⟩
  obtain ⟨u, hm, rfl⟩ := List.mem_map.1 hp
  exact ut_plus (hu u hm)
theorem splitK_le (sep : List UInt8) : ∀ (k : Nat) (s p : List UInt8), p ∈ Lib.splitK sep 0 k s → p.length ≤ s.length
  | 0, s, p, h => by rw [Lib.splitK, List.mem_singleton] at h; rw [h]; exact Nat.le_refl _
  | k + 1, s, p, h => by
    rw [Lib.splitK] at h
    split at h
    · rw [List.mem_singleton] at h; rw [h]; exact Nat.le_refl _
    · rcases List.mem_cons.1 h with e | h
      · rw [e, List.length_take]; omega
      · have := splitK_le sep k _ p h
        rw [List.length_drop] at this; omega
theorem pcl_le (c : UInt8) : ∀ (l pre p : List UInt8), p ∈ pcl c pre l → p.length ≤ pre.length + l.length
  | [], pre, p, h => by rw [pcl, List.mem_singleton] at h; rw [h]; simp
  | b :: r, pre, p, h => by
    rw [pcl] at h
    split at h
    · rcases List.mem_cons.1 h with e | h
      · rw [e, List.length_cons]; omega
      · have := pcl_le c r [] p h
        simp at this ⊢; omega
    · have := pcl_le c r (pre ++ [b]) p h
      simp at this ⊢; omega
theorem rd_of (P : List ByteArray) (i : Nat) (h : i < P.length) : rdOf ByteArray.empty P (i : Int) = P[i] := by
  unfold rdOf; rw [Int.toNat_natCast]; simp [h]
theorem map_drop {P : List ByteArray} {i : Nat} (hi : i < P.length) {L : List S43} (h : P.drop i = L.map ut) : ∃ w L', L = w :: L' ∧ P[i] = ut w ∧ P.drop (i + 1) = L'.map ut := by
  rw [List.drop_eq_getElem_cons hi] at h
  cases L with
  | nil => simp at h; omega
  | cons w L' =>
    rw [List.map_cons, List.cons.injEq] at h
    exact ⟨w, L', rfl, h.1, h.2⟩
theorem impl_read_loop (t : ByteArray) (P : List ByteArray) (hP : P.length ≤ 1000) (hp : ∀ p, p ∈ P → p.size ≤ 120) : ∀ d i, i + d = P.length → ∀ acc : List S43, acc.length ≤ i →
    ∃ r, Ev (fun k => impl_ReadStock.l0 k t acc P P.length (i : Int)) r ∧ (r = ([], false) ∨ (r.2 = true ∧ stockB r.1 = t)) ∧ ∀ L : List S43, (∀ u, u ∈ L → unitB u = true) → P.drop i = L.map ut → stockB (acc ++ L) = t → r = (acc ++ L, true) := by
  intro d
  induction d with
  | zero =>
    intro i hi acc ha
    refine ⟨if stockB acc = t then (acc, true) else ([], false), Ev.step (f := fun k => (impl_StockText.f k acc).bind fun t221 => (if t221.toList = t.toList then (some (acc, true)) else (some (([] : List (S43)), false)))) (fun k => by simp only [impl_ReadStock.l0]; rw [if_neg (by omega)]) (Ev.bind (impl_stock acc) ?_), ?_, fun L _ hL hs => ?_⟩
    · by_cases c : stockB acc = t
      · simp only [c, if_true]; exact Ev.now _
      · simp only [list_inj, c, if_false]; exact Ev.now _
    · by_cases c : stockB acc = t
      · rw [if_pos c]; exact .inr ⟨rfl, c⟩
      · rw [if_neg c]; exact .inl rfl
    · rw [List.drop_of_length_le (by omega)] at hL
      have : L = [] := by simpa using hL.symm
      subst this
      rw [List.append_nil] at hs ⊢
      rw [if_pos hs]
  | succ d ih =>
    intro i hi acc ha
    have hi' : i < P.length := by omega
    obtain ⟨u, hu1, hu2⟩ := read_unit P[i] (hp _ (List.getElem_mem hi'))
    obtain ⟨r, hr1, hr2, hr3⟩ := ih (i + 1) (by omega) (acc ++ [u]) (by rw [List.length_append, List.length_singleton]; omega)
    refine ⟨r, Ev.step (f := fun k => (impl_readUnit.f k P[i]).bind fun bt214 => (if acc.length < 4398046511104 then (impl_ReadStock.l0 k t (acc ++ [(⟨bt214.1, bt214.2.1, bt214.2.2.1, bt214.2.2.2⟩ : S43)]) P P.length ((i + 1 : Nat) : Int)) else (none))) (fun k => ?_) (Ev.bind hu1 ?_), hr2, fun L hL hd hs => ?_⟩
    · simp only [impl_ReadStock.l0]
      rw [if_pos (by omega), if_pos (by omega), if_pos (by omega), rd_of P i hi', w64s hi' (by omega)]
    · simp only [show acc.length < 4398046511104 by omega, if_true]
      exact hr1
    · obtain ⟨w, L', rfl, e1, e2⟩ := map_drop hi' hd
      have ew := hu2 w (hL w (List.mem_cons_self ..)) e1
      have := hr3 L' (fun x hx => hL x (List.mem_cons_of_mem _ hx)) e2 (by rw [ew, List.append_assoc]; exact hs)
      rw [this, ew, List.append_assoc]; rfl
theorem impl_read (t : ByteArray) (h45 : ¬ t.toList = ([45] : List UInt8)) : ∃ r, Ev (fun k => impl_ReadStock.f k t) r ∧ (r = ([], false) ∨ (r.2 = true ∧ Good t r.1)) ∧ ∀ L, Good t L → r = (L, true) := by
  have hn45 : t ≠ ⟨#[45]⟩ := fun e => h45 (by rw [e, list_of])
  have bad : ∀ L, Good t L → ¬ (t.toList = ([] : List UInt8)) := fun L hL he => by
    rw [list_of, (good_join hL).1] at he
    obtain ⟨_, h2, h3, _⟩ := hL
    cases L with
    | nil => exact h2 rfl
    | cons u r =>
      rw [List.map_cons, List.map_cons, Lib.join_cons, ut_list] at he
      simp at he
  by_cases c0 : t.toList = ([] : List UInt8)
  · refine ⟨([], false), ?_, .inl rfl, fun L hL => absurd c0 (bad L hL)⟩
    unfold impl_ReadStock.f
    simp only [c0, if_true]
    exact ev_some (fun k => by simp [impl_ReadStock.j0])
  by_cases c1 : (t.size : Int) > 120
  · refine ⟨([], false), ?_, .inl rfl, fun L hL => by have := hL.2.2.2; omega⟩
    unfold impl_ReadStock.f
    simp only [h45, if_false, c0, decide_eq_true c1]
    exact ev_some (fun k => by simp [impl_ReadStock.j0])
  have hn0 : t ≠ ⟨#[]⟩ := fun e => c0 (by rw [e, list_of])
  have hs1 : (⟨#[43]⟩ : ByteArray).size = 1 := rfl
  have hcl := Lib.countB_le (⟨#[43]⟩ : ByteArray) (by decide) t.size t (Nat.le_refl _)
  have hlen := Lib.splitB_length_le (⟨#[43]⟩ : ByteArray) 0 (Lib.countB t ⟨#[43]⟩) t
  obtain ⟨P, hPe⟩ : ∃ P, P = Lib.splitB (⟨#[43]⟩ : ByteArray) 0 (Lib.countB t ⟨#[43]⟩) t := ⟨_, rfl⟩
  rw [← hPe] at hlen
  have hsz : ∀ p, p ∈ P → p.size ≤ 120 := fun p hp => by
    have hm : p.data.toList ∈ P.map (·.data.toList) := List.mem_map.2 ⟨p, hp, rfl⟩
    rw [hPe, Lib.splitB_data] at hm
    have := splitK_le _ _ _ _ hm
    rw [dlen, dlen] at this; omega
  obtain ⟨r, hr1, hr2, hr3⟩ := impl_read_loop t P (by omega) hsz P.length 0 (by omega) [] (Nat.zero_le _)
  refine ⟨r, ?_, ?_, fun L hL => ?_⟩
  · unfold impl_ReadStock.f
    simp only [h45, if_false, c0, decide_eq_false c1]
    refine ev_at hr1 (fun k => ?_)
    simp only [impl_ReadStock.j0, strings_Split.f]
    rw [if_neg (by decide), if_pos ⟨by decide, by omega⟩, Option.bind_some, ← hPe]
    rfl
  · rcases hr2 with h | ⟨h1, h2⟩
    · exact .inl h
    · exact .inr ⟨h1, stock_good h2 hn45 hn0⟩
  · obtain ⟨g1, g2, g3, g4⟩ := good_join hL
    have hP2 : P = L.map ut := by rw [hPe]; exact split_same 43 (L.map ut) g3 g2 t g1
    have := hr3 L g4 (by rw [List.drop_zero]; exact hP2) (by rw [List.nil_append]; exact good_stock hL)
    rw [this, List.nil_append]
end Go.Proofs.YtnojpcmaalbdhaaDoor.Pure

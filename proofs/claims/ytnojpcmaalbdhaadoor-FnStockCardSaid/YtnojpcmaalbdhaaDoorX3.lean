/- Texts read as numbers: the program's and the reference's way. -/
import Derived.Test.YtnojpcmaalbdhaaDoorX2
namespace Go.Proofs.YtnojpcmaalbdhaaDoor.Pure
open Go.RowKit Go.Proofs.YtnojpcmaalbdhaaDoor.P Go.Proofs.YtnojpcmaalbdhaaDoorW.PrintWords Go.Proofs.YtnojpcmaalbdhaaDoorW.PrintLast

def dgB (b : UInt8) : Prop := 48 ≤ b.toNat ∧ b.toNat ≤ 57
def val (l : List UInt8) : Nat := l.foldl (fun a b => 10 * a + (b.toNat - 48)) 0
theorem val_snoc (l : List UInt8) (b : UInt8) : val (l ++ [b]) = 10 * val l + (b.toNat - 48) := by simp [val]
theorem u8_small (n : Nat) (h : n < 256) : (UInt8.ofNat n).toNat = n := by simp [UInt8.toNat_ofNat']; omega
theorem val_dec (u : Nat) : val (Lib.decDigits u) = u ∧ ∀ b, b ∈ Lib.decDigits u → dgB b := by
  induction u using Nat.strongRecOn with
  | _ u ih =>
    rw [Lib.decDigits]
    split
    · rename_i h
      refine ⟨?_, fun b hb => ?_⟩
      · show val ([] ++ [UInt8.ofNat (48 + u)]) = u
        rw [val_snoc, u8_small _ (by omega)]
        show 10 * 0 + _ = u
        omega
      · rw [List.mem_singleton] at hb
        subst hb
        unfold dgB
        rw [u8_small _ (by omega)]; omega
    · rename_i h
      obtain ⟨h1, h2⟩ := ih (u / 10) (by omega)
      refine ⟨?_, fun b hb => ?_⟩
      · rw [val_snoc, h1, u8_small _ (by omega)]; omega
      · rcases List.mem_append.1 hb with hb | hb
        · exact h2 b hb
        · rw [List.mem_singleton] at hb
          subst hb
          unfold dgB
          rw [u8_small _ (by omega)]; omega
theorem val_lt (l : List UInt8) (h : ∀ b, b ∈ l → dgB b) : ∀ i, i ≤ l.length → val (l.take i) < 10 ^ i
  | 0, _ => by simp [val]
  | i + 1, hi => by
    have ih := val_lt l h i (by omega)
    have hb := h _ (List.getElem_mem (show i < l.length by omega))
    rw [List.take_succ_eq_append_getElem (show i < l.length by omega), val_snoc, Nat.pow_succ]
    unfold dgB at hb
    omega
theorem ten_le (i : Nat) (h : i ≤ 8) : (10 : Nat) ^ i ≤ 100000000 := by
  have := Nat.pow_le_pow_right (show 0 < 10 by decide) h
  simpa using this
theorem dec_list (u : Nat) : (dec u).data.toList = Lib.decDigits u := by simp [dec]
theorem take_dig {l : List UInt8} {i : Nat} (h : ∀ b, b ∈ l.take i → dgB b) (hi : i < l.length) (hb : dgB l[i]) : ∀ b, b ∈ l.take (i + 1) → dgB b := by
  intro b hm
  rw [List.take_succ_eq_append_getElem hi] at hm
  rcases List.mem_append.1 hm with hm | hm
  · exact h b hm
  · rw [List.mem_singleton] at hm; rw [hm]; exact hb
theorem val_take {l : List UInt8} {i : Nat} (h : ∀ b, b ∈ l.take i → dgB b) (hi : i ≤ 8) : val (l.take i) < 100000000 := by
  have h1 := val_lt (l.take i) h (l.take i).length (Nat.le_refl _)
  rw [List.take_length] at h1
  have h2 := ten_le (l.take i).length (by rw [List.length_take]; omega)
  omega
theorem impl_digits_ev (s : ByteArray) (m : Int) (hm : m ≤ 8) : ∃ v, Ev (fun k => impl_digits.f k s m) v ∧ ∀ u, s = dec u → 1 ≤ s.size → (s.size : Int) ≤ m → v = (u : Int) := by
  have hl := dlen s
  by_cases c1 : (s.size : Int) < 1
  · refine ⟨-1, ?_, fun u _ h _ => by omega⟩
    simp only [impl_digits.f, c1, if_true]
    exact ev_some (fun k => by simp [impl_digits.j0])
  by_cases c2 : (s.size : Int) > m
  · refine ⟨-1, ?_, fun u _ _ h => by omega⟩
    simp only [impl_digits.f, c1, if_false, decide_eq_true c2]
    exact ev_some (fun k => by simp [impl_digits.j0])
  have key : ∀ d i, i + d = s.size → (∀ b, b ∈ s.data.toList.take i → dgB b) → ∃ v, Ev (fun k => impl_digits.l0 k s (val (s.data.toList.take i) : Int) (i : Int)) v ∧ ((∀ b, b ∈ s.data.toList → dgB b) → v = (val s.data.toList : Int)) := by
    intro d
    induction d with
    | zero =>
      intro i hi hd
      refine ⟨_, ev_some (fun k => by simp only [impl_digits.l0]; rw [if_neg (by omega)]), fun _ => ?_⟩
      rw [List.take_of_length_le (by omega)]
    | succ d ih =>
      intro i hi hd
      have hil : i < s.data.toList.length := by omega
      have hbt := bt_nat s i (by omega)
      have hv := val_take hd (by omega)
      by_cases b1 : s.data.toList[i].toNat < 48
      · refine ⟨-1, ev_some (fun k => ?_), fun hall => ?_⟩
        · simp only [impl_digits.l0]
          rw [if_pos (by omega), if_pos (by omega), hbt, if_pos (by omega)]
        · have := hall _ (List.getElem_mem hil); unfold dgB at this; omega
      by_cases b2 : s.data.toList[i].toNat > 57
      · refine ⟨-1, ev_some (fun k => ?_), fun hall => ?_⟩
        · simp only [impl_digits.l0]
          rw [if_pos (by omega), if_pos (by omega), hbt, if_neg (by omega), if_pos (by omega)]
        · have := hall _ (List.getElem_mem hil); unfold dgB at this; omega
      obtain ⟨v, hv1, hv2⟩ := ih (i + 1) (by omega) (take_dig hd hil ⟨by omega, by omega⟩)
      refine ⟨v, ev_at hv1 (fun k => ?_), hv2⟩
      simp only [impl_digits.l0]
      rw [if_pos (by omega), if_pos (by omega), hbt, if_neg (by omega), if_neg (by omega), w64 (x := (i : Int) + 1) (by omega) (by omega), w64 (x := 10 * (val (s.data.toList.take i) : Int)) (by omega) (by omega), w64 (by omega) (by omega)]
      rw [List.take_succ_eq_append_getElem hil, val_snoc]
      congr 1
      omega
  obtain ⟨v, hv1, hv2⟩ := key s.size 0 (by omega) (fun b hb => by simp at hb)
  refine ⟨v, ?_, fun u hu _ _ => ?_⟩
  · simp only [impl_digits.f, c1, if_false, decide_eq_false c2]
    refine ev_at hv1 (fun k => ?_)
    simp only [impl_digits.j0]
    rw [if_neg (by decide)]
    rfl
  · obtain ⟨d1, d2⟩ := val_dec u
    rw [hv2 (by rw [hu, dec_list]; exact d2), hu, dec_list, d1]
theorem spec_number_ev (s : ByteArray) (hs : s.size ≤ 1000000) : ∃ v, Ev (fun k => spec_l08Number.f k s) v ∧ ∀ u : Nat, u ≤ 9999 → s = dec u → s.size ≤ 8 → v = (u : Int) := by
  have hl := dlen s
  have fin : ∀ i, i = min s.size 8 → (∀ b, b ∈ s.data.toList.take i → dgB b) → ∃ v, Ev (fun k => spec_l08Number.j1 k s (val (s.data.toList.take i) : Int) (i : Int) false) v ∧ ∀ u : Nat, u ≤ 9999 → s = dec u → s.size ≤ 8 → v = (u : Int) := by
    intro i hi hd
    by_cases c0 : (s.size : Int) = 0
    · refine ⟨-1, ev_some (fun k => by simp only [spec_l08Number.j1]; rw [if_neg (by decide), if_pos c0]), fun u _ hu _ => ?_⟩
      exfalso
      have h1 := congrArg List.length (dec_list u)
      rw [← hu, hl] at h1
      have : 1 ≤ (Lib.decDigits u).length := by rw [Lib.decDigits]; split <;> simp
      omega
    by_cases c8 : (s.size : Int) > 8
    · exact ⟨-1, ev_some (fun k => by simp only [spec_l08Number.j1]; rw [if_neg (by decide), if_neg c0, if_pos c8]), fun u _ _ h => by omega⟩
    have hv := val_take hd (by omega)
    have hn := spec_num (a := (val (s.data.toList.take i) : Int)) (by omega) (by omega)
    rw [Int.toNat_natCast] at hn
    refine ⟨if (dec (val (s.data.toList.take i))).toList = s.toList then (val (s.data.toList.take i) : Int) else -1, Ev.step (f := fun k => (spec_l01Num.f k (val (s.data.toList.take i) : Int)).bind fun t => if t.toList = s.toList then some (val (s.data.toList.take i) : Int) else some (-1)) (fun k => ?_) (Ev.bind hn ?_), fun u _ hu _ => ?_⟩
    · simp only [spec_l08Number.j1]; rw [if_neg (by decide), if_neg c0, if_neg c8]
    · by_cases e : (dec (val (s.data.toList.take i))).toList = s.toList
      · simp only [e, if_true]; exact Ev.now _
      · simp only [e, if_false]; exact Ev.now _
    · obtain ⟨d1, _⟩ := val_dec u
      have e : val (s.data.toList.take i) = u := by rw [List.take_of_length_le (by omega), hu, dec_list, d1]
      rw [e, hu, if_pos rfl]
  have key : ∀ d i, i + d = min s.size 8 → (∀ b, b ∈ s.data.toList.take i → dgB b) → ∃ v, Ev (fun k => spec_l08Number.l0 k s (val (s.data.toList.take i) : Int) (i : Int)) v ∧ ∀ u : Nat, u ≤ 9999 → s = dec u → s.size ≤ 8 → v = (u : Int) := by
    intro d
    induction d with
    | zero =>
      intro i hi hd
      obtain ⟨v, h1, h2⟩ := fin i (by omega) hd
      refine ⟨v, ev_at h1 (fun k => ?_), h2⟩
      simp only [spec_l08Number.l0]
      by_cases c : (i : Int) < (s.size : Int)
      · rw [if_pos c, decide_eq_false (by omega)]
      · rw [if_neg c]
    | succ d ih =>
      intro i hi hd
      have hil : i < s.data.toList.length := by omega
      have hbt := bt_nat s i (by omega)
      have hv := val_take hd (by omega)
      have bad : ¬ dgB s.data.toList[i] → ∀ u : Nat, u ≤ 9999 → s = dec u → s.size ≤ 8 → (-1 : Int) = (u : Int) := by
        intro hb u _ hu _
        exfalso
        have h2 := (val_dec u).2
        rw [← dec_list, ← hu] at h2
        exact hb (h2 _ (List.getElem_mem hil))
      by_cases b1 : s.data.toList[i].toNat < 48
      · refine ⟨-1, ev_at (f := fun k => spec_l08Number.j1 k s (val (s.data.toList.take i) : Int) (i : Int) true) (ev_some (fun k => ?_)) (fun k => ?_), bad (fun h => by unfold dgB at h; omega)⟩
        · simp only [spec_l08Number.j1]
          rw [if_pos trivial, if_pos (by omega), if_pos (by omega), hbt, if_pos (by omega)]
        · simp only [spec_l08Number.l0]; rw [if_pos (by omega), decide_eq_true (by omega)]
      by_cases b2 : s.data.toList[i].toNat > 57
      · refine ⟨-1, ev_at (f := fun k => spec_l08Number.j1 k s (val (s.data.toList.take i) : Int) (i : Int) true) (ev_some (fun k => ?_)) (fun k => ?_), bad (fun h => by unfold dgB at h; omega)⟩
        · simp only [spec_l08Number.j1]
          rw [if_pos trivial, if_pos (by omega), if_pos (by omega), hbt, if_neg (by omega), if_pos (by omega)]
        · simp only [spec_l08Number.l0]; rw [if_pos (by omega), decide_eq_true (by omega)]
      obtain ⟨v, hv1, hv2⟩ := ih (i + 1) (by omega) (take_dig hd hil ⟨by omega, by omega⟩)
      refine ⟨v, ev_at (f := fun k => spec_l08Number.j1 k s (val (s.data.toList.take i) : Int) (i : Int) true) (ev_at hv1 (fun k => ?_)) (fun k => ?_), hv2⟩
      · simp only [spec_l08Number.j1]
        rw [if_pos trivial, if_pos (by omega), if_pos (by omega), hbt, if_neg (by omega), if_neg (by omega), w64 (x := (i : Int) + 1) (by omega) (by omega), w64 (x := (val (s.data.toList.take i) : Int) * 10) (by omega) (by omega), w64 (x := (s.data.toList[i].toNat : Int)) (by omega) (by omega)]
        rw [w64 (x := (val (s.data.toList.take i) : Int) * 10 + (s.data.toList[i].toNat : Int)) (by omega) (by omega), w64 (by omega) (by omega), List.take_succ_eq_append_getElem hil, val_snoc]
        congr 1
        omega
      · simp only [spec_l08Number.l0]; rw [if_pos (by omega), decide_eq_true (by omega)]
  obtain ⟨v, hv1, hv2⟩ := key (min s.size 8) 0 (by omega) (fun b hb => by simp at hb)
  exact ⟨v, hv1, hv2⟩
end Go.Proofs.YtnojpcmaalbdhaaDoor.Pure

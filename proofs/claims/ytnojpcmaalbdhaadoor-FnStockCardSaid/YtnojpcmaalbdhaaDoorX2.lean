/- Texts put together by a sign that none of them holds are parted again as they were: by the library's Split, by a scan. -/
import Derived.Test.YtnojpcmaalbdhaaDoorX1
import Derived.Lib.SplitLaws
import Derived.Lib.CountLaws
import Derived.Lib.Strings
import Derived.Lib.IndexBytes
namespace Go.Proofs.YtnojpcmaalbdhaaDoor.Pure
open Go.RowKit Go.Proofs.YtnojpcmaalbdhaaDoor.P Go.Proofs.YtnojpcmaalbdhaaDoorW.PrintWords Go.Proofs.YtnojpcmaalbdhaaDoorW.PrintLast

theorem ib_miss (c : UInt8) : ∀ x : List UInt8, c ∉ x → Lib.indexByte x c = -1
  | [], _ => rfl
  | b :: l, h => by
    have hb : ¬ b = c := fun e => h (by rw [e]; exact List.mem_cons_self ..)
    have hl := ib_miss c l (fun hm => h (List.mem_cons_of_mem _ hm))
    unfold Lib.indexByte
    rw [if_neg (by simpa using hb), hl]; rfl
theorem ib_hit (c : UInt8) (r : List UInt8) : ∀ x : List UInt8, c ∉ x → Lib.indexByte (x ++ c :: r) c = (x.length : Int)
  | [], _ => by rw [List.nil_append]; unfold Lib.indexByte; rw [if_pos (by simp)]; rfl
  | b :: l, h => by
    have hb : ¬ b = c := fun e => h (by rw [e]; exact List.mem_cons_self ..)
    have hl := ib_hit c r l (fun hm => h (List.mem_cons_of_mem _ hm))
    rw [List.cons_append]
    unfold Lib.indexByte
    rw [if_neg (by simpa using hb), hl, if_neg (by simp <;> omega), List.length_cons]
    omega
theorem join_two (p q : List UInt8) (r : List (List UInt8)) (c : UInt8) : Lib.join (p :: q :: r) [c] = p ++ c :: Lib.join (q :: r) [c] := by
  rw [Lib.join_cons, Lib.join_cons]
  simp [Lib.joinTail]
/-- The library's Split. -/
theorem split_list (c : UInt8) : ∀ ps : List (List UInt8), ps ≠ [] → (∀ p, p ∈ ps → c ∉ p) → Lib.count (Lib.join ps [c]) [c] + 1 = ps.length ∧ Lib.splitK [c] 0 (Lib.count (Lib.join ps [c]) [c]) (Lib.join ps [c]) = ps
  | [], h, _ => absurd rfl h
  | [p], _, hc => by
    have hi : Lib.index p [c] = -1 := by rw [Lib.index_one]; exact ib_miss c p (hc p (List.mem_singleton.2 rfl))
    rw [Lib.join_one, Lib.count_miss hi]
    exact ⟨rfl, rfl⟩
  | p :: q :: r, _, hc => by
    have hp := hc p (List.mem_cons_self ..)
    obtain ⟨h1, h2⟩ := split_list c (q :: r) (by simp) (fun x hx => hc x (List.mem_cons_of_mem _ hx))
    have hi : Lib.index (Lib.join (p :: q :: r) [c]) [c] = (p.length : Int) := by rw [join_two, Lib.index_one]; exact ib_hit c _ p hp
    have hd : (Lib.join (p :: q :: r) [c]).drop (p.length + 1) = Lib.join (q :: r) [c] := by rw [join_two]; simp
    have hk : Lib.count (Lib.join (p :: q :: r) [c]) [c] = 1 + Lib.count (Lib.join (q :: r) [c]) [c] := by
      rw [Lib.count_hit (by simp) hi, List.length_singleton, hd]
    refine ⟨by rw [hk, List.length_cons]; omega, ?_⟩
    rw [hk, show 1 + Lib.count (Lib.join (q :: r) [c]) [c] = Lib.count (Lib.join (q :: r) [c]) [c] + 1 by omega, Lib.splitK, hi, if_neg (by simp <;> omega), Int.toNat_natCast, List.length_singleton, hd, h2, join_two]
    simp
theorem data_inj {a b : ByteArray} (h : a.data.toList = b.data.toList) : a = b := by
  apply ByteArray.ext
  exact Array.toList_inj.1 h
theorem map_data_inj : ∀ {a b : List ByteArray}, a.map (·.data.toList) = b.map (·.data.toList) → a = b
  | [], [], _ => rfl
  | [], _ :: _, h => by simp at h
  | _ :: _, [], h => by simp at h
  | x :: a, y :: b, h => by
    rw [List.map_cons, List.map_cons, List.cons.injEq] at h
    rw [data_inj h.1, map_data_inj h.2]
theorem split_same (c : UInt8) (ps : List ByteArray) (hne : ps ≠ []) (hc : ∀ p, p ∈ ps → c ∉ p.data.toList) (s : ByteArray) (hs : s.data.toList = Lib.join (ps.map (·.data.toList)) [c]) : Lib.splitB (⟨#[c]⟩ : ByteArray) 0 (Lib.countB s (⟨#[c]⟩ : ByteArray)) s = ps := by
  apply map_data_inj
  rw [Lib.splitB_data]
  have e : (⟨#[c]⟩ : ByteArray).data.toList = [c] := rfl
  obtain ⟨_, h2⟩ := split_list c (ps.map (·.data.toList)) (by simpa using hne) (fun p hp => by
    obtain ⟨x, hx, rfl⟩ := List.mem_map.1 hp
    exact hc x hx)
  show Lib.splitK _ 0 (Lib.count s.data.toList _) _ = _
  rw [e, hs]
  exact h2
/-- A scan that parts at a sign. -/
def pcl (c : UInt8) : List UInt8 → List UInt8 → List (List UInt8)
  | pre, [] => [pre]
  | pre, b :: r => if b = c then pre :: pcl c [] r else pcl c (pre ++ [b]) r
theorem pcl_skip (c : UInt8) (rest : List UInt8) : ∀ (p pre : List UInt8), c ∉ p → pcl c pre (p ++ rest) = pcl c (pre ++ p) rest
  | [], pre, _ => by rw [List.nil_append, List.append_nil]
  | b :: p, pre, h => by
    have hb : ¬ b = c := fun e => h (by rw [e]; exact List.mem_cons_self ..)
    rw [List.cons_append, pcl, if_neg hb, pcl_skip c rest p (pre ++ [b]) (fun hm => h (List.mem_cons_of_mem _ hm))]
    simp
theorem pcl_join (c : UInt8) : ∀ ps : List (List UInt8), ps ≠ [] → (∀ p, p ∈ ps → c ∉ p) → pcl c [] (Lib.join ps [c]) = ps
  | [], h, _ => absurd rfl h
  | [p], _, hc => by
    have := pcl_skip c [] p [] (hc p (List.mem_singleton.2 rfl))
    rw [List.append_nil] at this
    rw [Lib.join_one, this, pcl, List.nil_append]
  | p :: q :: r, _, hc => by
    rw [join_two, pcl_skip c _ p [] (hc p (List.mem_cons_self ..)), pcl, if_pos rfl, pcl_join c (q :: r) (by simp) (fun x hx => hc x (List.mem_cons_of_mem _ hx)), List.nil_append]
theorem pcl_len (c : UInt8) : ∀ (l pre : List UInt8), (pcl c pre l).length ≤ l.length + 1
  | [], _ => by simp [pcl]
  | b :: r, pre => by
    rw [pcl]
    split
    · have := pcl_len c r []; simp; omega
    · have := pcl_len c r (pre ++ [b]); simp; omega
theorem dlen (s : ByteArray) : s.data.toList.length = s.size := by rw [Array.length_toList]; rfl
theorem bt_nat (s : ByteArray) (i : Nat) (h : i < s.size) : bt s (i : Int) = ((s.data.toList[i]'(by rw [dlen]; exact h)).toNat : Int) := by
  unfold bt
  rw [dif_pos (by rw [Int.toNat_natCast]; exact h)]
  rfl
theorem u8_eq (a b : UInt8) : (a.toNat : Int) = (b.toNat : Int) ↔ a = b := ⟨fun h => UInt8.toNat_inj.1 (by omega), fun h => by rw [h]⟩
/-- The reference's parting is that scan. -/
theorem spec_split (s : ByteArray) (hs : s.size ≤ 1000000) (c : UInt8) : ∃ R : List ByteArray, Ev (fun k => spec_l08Split.f k s (c.toNat : Int)) R ∧ R.map (·.data.toList) = pcl c [] s.data.toList := by
  have hl := dlen s
  have key : ∀ d i fr, i + d = s.size → fr ≤ i → ∀ x5 : List ByteArray, x5.length ≤ i → ∃ R : List ByteArray, Ev (fun k => spec_l08Split.l0 k s (c.toNat : Int) x5 (fr : Int) (i : Int)) R ∧ R.map (·.data.toList) = x5.map (·.data.toList) ++ pcl c ((s.data.toList.drop fr).take (i - fr)) (s.data.toList.drop i) := by
    intro d
    induction d with
    | zero =>
      intro i fr hi hf x5 hx
      have hi' : i = s.size := by omega
      subst hi'
      refine ⟨x5 ++ [s.extract fr s.size], ev_at (f := fun k => spec_l08Split.l0 k s (c.toNat : Int) (x5 ++ [s.extract fr s.size]) ((s.size + 1 : Nat) : Int) ((s.size + 1 : Nat) : Int)) ?_ (fun k => ?_), ?_⟩
      · exact ev_some (fun k => by simp only [spec_l08Split.l0]; rw [if_neg (by omega)])
      · simp only [spec_l08Split.l0]
        rw [if_pos (by omega), if_pos trivial, if_pos (by omega), if_pos (by omega), if_pos (by omega), w64 (x := (s.size : Int) + 1) (by omega) (by omega), Int.toNat_natCast, Int.toNat_natCast]
        rfl
      · rw [List.map_append, List.map_cons, List.map_nil, Lib.extract_data, List.drop_of_length_le (show s.data.toList.length ≤ s.size by omega), pcl]
    | succ d ih =>
      intro i fr hi hf x5 hx
      have hil : i < s.data.toList.length := by omega
      have hdrop : s.data.toList.drop i = s.data.toList[i] :: s.data.toList.drop (i + 1) := List.drop_eq_getElem_cons hil
      have hbt := bt_nat s i (by omega)
      by_cases hb : s.data.toList[i] = c
      · obtain ⟨R, hR, hm⟩ := ih (i + 1) (i + 1) (by omega) (by omega) (x5 ++ [s.extract fr i]) (by rw [List.length_append, List.length_singleton]; omega)
        refine ⟨R, ev_at hR (fun k => ?_), ?_⟩
        · simp only [spec_l08Split.l0]
          rw [if_pos (by omega), if_neg (by omega), if_pos (by omega), if_pos (by omega), hbt, if_pos (by rw [hb]), if_pos (by omega), if_pos (by omega), if_pos (by omega), w64 (x := (i : Int) + 1) (by omega) (by omega), Int.toNat_natCast, Int.toNat_natCast]
          rfl
        · rw [hm, hdrop, pcl, if_pos hb, List.map_append, List.map_cons, List.map_nil, Lib.extract_data, Nat.sub_self, List.take_zero, List.append_assoc]
          rfl
      · obtain ⟨R, hR, hm⟩ := ih (i + 1) fr (by omega) (by omega) x5 (by omega)
        refine ⟨R, ev_at hR (fun k => ?_), ?_⟩
        · simp only [spec_l08Split.l0]
          rw [if_pos (by omega), if_neg (by omega), if_pos (by omega), if_pos (by omega), hbt, if_neg (by rw [u8_eq]; exact hb), w64 (x := (i : Int) + 1) (by omega) (by omega)]
          rfl
        · rw [hm, hdrop, pcl, if_neg hb]
          congr 2
          rw [show i + 1 - fr = (i - fr) + 1 by omega, List.take_succ_eq_append_getElem (show i - fr < (s.data.toList.drop fr).length by rw [List.length_drop]; omega), List.getElem_drop]
          simp only [show fr + (i - fr) = i by omega]
  obtain ⟨R, hR, hm⟩ := key s.size 0 0 (by omega) (Nat.le_refl _) [] (Nat.zero_le _)
  exact ⟨R, hR, by simpa using hm⟩
end Go.Proofs.YtnojpcmaalbdhaaDoor.Pure

/- The tasks in the order of Dep and place: the program's sort and the reference's choice tell the same. -/
import Derived.Test.YtoalolbifakpiaaT1
import Derived.Test.YtoalolbifakpiaaT3
namespace Go.Proofs.Ytoalolbifakpiaa.Pure
open Go.RowKit Go.Proofs.Ytoalolbifakpiaa.P Go.Proofs.YtoalolbifakpiaaW.PrintWords Go.Proofs.YtoalolbifakpiaaW.PrintLast

theorem spec_has (xs : List Int) (a : Int) (h : xs.length ≤ 1000000) : Ev (fun k => spec_l01Has.f k xs a) (xs.any fun x => decide (x = a)) := by
  refine ev_any xs (fun x => decide (x = a)) (fun k i => spec_l01Has.l0 k xs a i) (fun k => by simp [spec_l01Has.l0]) (fun k i hi hp => ?_) (fun k i hi hp => ?_)
  · have e : rd xs (i : Int) = xs[i] := by unfold rd; rw [Int.toNat_natCast, List.getD_eq_getElem?_getD, List.getElem?_eq_getElem hi]; rfl
    simp only [decide_eq_true_eq] at hp
    simp [spec_l01Has.l0, hi, e, hp]
  · have e : rd xs (i : Int) = xs[i] := by unfold rd; rw [Int.toNat_natCast, List.getD_eq_getElem?_getD, List.getElem?_eq_getElem hi]; rfl
    simp only [decide_eq_false_iff_not] at hp
    simp [spec_l01Has.l0, hi, e, hp, w64s hi (by omega)]
/-- The places, by Dep and place. -/
def ordN (l : List S25) : List Nat := (List.range l.length).mergeSort (impl_byDep.l1 l)
theorem ord_map (l : List S25) : impl_byDep.l0 l = (ordN l).map (fun (i : Nat) => (i : Int)) := rfl
theorem ord_perm (l : List S25) : (ordN l).Perm (List.range l.length) := List.mergeSort_perm _ _
theorem ord_len (l : List S25) : (ordN l).length = l.length := by rw [(ord_perm l).length_eq, List.length_range]
theorem ord_mem (l : List S25) (x : Nat) : x ∈ ordN l ↔ x < l.length := by rw [(ord_perm l).mem_iff, List.mem_range]
theorem ord_nodup (l : List S25) : (ordN l).Nodup := (ord_perm l).symm.nodup List.nodup_range
theorem le_trans' (l : List S25) (a b c : Nat) (h1 : impl_byDep.l1 l a b = true) (h2 : impl_byDep.l1 l b c = true) : impl_byDep.l1 l a c = true := by
  simp only [impl_byDep.l1, decide_eq_true_eq] at h1 h2 ⊢
  omega
theorem le_total' (l : List S25) (a b : Nat) : (impl_byDep.l1 l a b || impl_byDep.l1 l b a) = true := by
  simp only [impl_byDep.l1, Bool.or_eq_true, decide_eq_true_eq]
  omega
theorem ord_sorted (l : List S25) : List.Pairwise (fun a b => impl_byDep.l1 l a b = true) (ordN l) := List.pairwise_mergeSort (le_trans' l) (le_total' l) _
theorem le_antisymm' (l : List S25) (a b : Nat) (h1 : impl_byDep.l1 l a b = true) (h2 : impl_byDep.l1 l b a = true) : a = b := by
  simp only [impl_byDep.l1, decide_eq_true_eq] at h1 h2
  omega
theorem any_cast (m : List Nat) (x : Nat) : ((m.map (fun (i : Nat) => (i : Int))).any fun y => decide (y = (x : Int))) = decide (x ∈ m) := by
  rw [Bool.eq_iff_iff, List.any_eq_true]
  simp only [decide_eq_true_eq, List.mem_map]
  constructor
  · rintro ⟨_, ⟨a, ha, rfl⟩, h⟩
    have : a = x := by omega
    rwa [← this]
  · intro h
    exact ⟨_, ⟨x, h, rfl⟩, rfl⟩
/-- The best so far: of the places below j that are not taken. -/
def bestAt (l : List S25) (tk : List Nat) (j : Nat) (x : Int) : Prop := (x = -1 ∧ ∀ y, y < j → y ∈ tk) ∨ (∃ b : Nat, x = (b : Int) ∧ b < j ∧ b ∉ tk ∧ ∀ y, y < j → y ∉ tk → impl_byDep.l1 l b y = true)
theorem bestAt_taken {l : List S25} {tk : List Nat} {j : Nat} {x : Int} (h : bestAt l tk j x) (hj : j ∈ tk) : bestAt l tk (j + 1) x := by
  rcases h with ⟨h1, h2⟩ | ⟨b, h1, h2, h3, h4⟩
  · exact Or.inl ⟨h1, fun y hy => by by_cases e : y = j; (· rw [e]; exact hj); exact h2 y (by omega)⟩
  · exact Or.inr ⟨b, h1, by omega, h3, fun y hy hn => h4 y (by have : y ≠ j := fun e => hn (e ▸ hj)
                                                               omega) hn⟩
theorem bestAt_first {l : List S25} {tk : List Nat} {j : Nat} {x : Int} (h : bestAt l tk j x) (hj : j ∉ tk) (hx : x < 0) : bestAt l tk (j + 1) (j : Int) := by
  rcases h with ⟨h1, h2⟩ | ⟨b, h1, h2, h3, h4⟩
  · exact Or.inr ⟨j, rfl, by omega, hj, fun y hy hn => by
      by_cases e : y = j
      · rw [e]; simp [impl_byDep.l1]
      · exact absurd (h2 y (by omega)) hn⟩
  · omega
theorem bestAt_next {l : List S25} {tk : List Nat} {j b : Nat} (h : bestAt l tk j (b : Int)) (hj : j ∉ tk) : bestAt l tk (j + 1) (if (rd_T25 l j).f2 < (rd_T25 l b).f2 then (j : Int) else (b : Int)) := by
  rcases h with ⟨h1, h2⟩ | ⟨b', h1, h2, h3, h4⟩
  · omega
  · have e : b = b' := by omega
    subst e
    by_cases c : (rd_T25 l j).f2 < (rd_T25 l b).f2
    · rw [if_pos c]
      refine Or.inr ⟨j, rfl, by omega, hj, fun y hy hn => ?_⟩
      by_cases e : y = j
      · rw [e]; simp [impl_byDep.l1]
      · have := h4 y (by omega) hn
        simp only [impl_byDep.l1, decide_eq_true_eq] at this ⊢
        omega
    · rw [if_neg c]
      refine Or.inr ⟨b, rfl, by omega, h3, fun y hy hn => ?_⟩
      by_cases e : y = j
      · rw [e]
        simp only [impl_byDep.l1, decide_eq_true_eq]
        omega
      · exact h4 y (by omega) hn
theorem best_end (l : List S25) (i : Nat) (hi : i < l.length) (x : Int) (h : bestAt l ((ordN l).take i) l.length x) : x = (((ordN l)[i]'(by rw [ord_len]; exact hi) : Nat) : Int) := by
  have hl : i < (ordN l).length := by rw [ord_len]; exact hi
  have nd := ord_nodup l
  have hnot : (ordN l)[i] ∉ (ordN l).take i := fun hm => by
    obtain ⟨j, hj, e⟩ := List.mem_iff_getElem.1 hm
    rw [List.getElem_take] at e
    rw [List.length_take] at hj
    have := (List.getElem_inj nd).1 e
    omega
  have hlt : (ordN l)[i] < l.length := (ord_mem l _).1 (List.getElem_mem _)
  rcases h with ⟨h1, h2⟩ | ⟨b, rfl, h2, h3, h4⟩
  · exact absurd (h2 _ hlt) hnot
  · have hb : b ∈ (ordN l).take i ++ (ordN l).drop i := by rw [List.take_append_drop]; exact (ord_mem l b).2 h2
    rcases List.mem_append.1 hb with hb | hb
    · exact absurd hb h3
    · rw [List.drop_eq_getElem_cons hl] at hb
      rcases List.mem_cons.1 hb with hb | hb
      · rw [hb]
      · have hs := ord_sorted l
        have h5 : impl_byDep.l1 l (ordN l)[i] b = true := by
          obtain ⟨j, hj, e⟩ := List.mem_iff_getElem.1 hb
          rw [List.getElem_drop] at e
          rw [← e]
          exact (List.pairwise_iff_getElem.1 hs) i (i + 1 + j) hl (by rw [List.length_drop] at hj; omega) (by omega)
        rw [le_antisymm' l _ _ (h4 _ hlt hnot) h5]
theorem spec_order (l : List S25) (h : l.length ≤ 1000000) : Ev (fun k => spec_l16Order.f k l) (impl_byDep.l0 l) := by
  have hO := ord_map l
  have hlen : (impl_byDep.l0 l).length = l.length := by rw [hO, List.length_map, ord_len]
  have key : ∀ i, i ≤ l.length → Ev (fun k => spec_l16Order.l0 k l ((impl_byDep.l0 l).take i)) (impl_byDep.l0 l) := by
    refine down l.length ?_ (fun i hi ih => ?_)
    · rw [List.take_of_length_le (by omega)]
      exact ev_some (fun k => by simp [spec_l16Order.l0, hlen])
    · have hti : ((impl_byDep.l0 l).take i).length = i := by rw [List.length_take]; omega
      have hm : (impl_byDep.l0 l).take i = ((ordN l).take i).map (fun (i : Nat) => (i : Int)) := by rw [hO, List.map_take]
      have inner : ∀ j, j ≤ l.length → ∀ x, bestAt l ((ordN l).take i) j x → Ev (fun k => spec_l16Order.l1 k l ((impl_byDep.l0 l).take i) x (j : Int)) (impl_byDep.l0 l) := by
        refine down l.length (fun x hx => ?_) (fun j hj ih2 x hx => ?_)
        · have hx2 := best_end l i hi x hx
          refine ev_at ih (fun k => ?_)
          have e : (impl_byDep.l0 l).take (i + 1) = (impl_byDep.l0 l).take i ++ [x] := by
            rw [List.take_succ_eq_append_getElem (by omega), hx2]
            simp [hO]
          simp only [spec_l16Order.l1, Int.lt_irrefl, if_false]
          rw [if_pos (by omega), e]
        · have hh := spec_has ((impl_byDep.l0 l).take i) (j : Int) (by omega)
          rw [hm, any_cast, ← hm] at hh
          refine ev_at (f := fun k => (spec_l01Has.f k ((impl_byDep.l0 l).take i) (j : Int)).bind fun t => if t = true then spec_l16Order.l1 k l ((impl_byDep.l0 l).take i) x ((j + 1 : Nat) : Int) else if x < 0 then spec_l16Order.l1 k l ((impl_byDep.l0 l).take i) (j : Int) ((j + 1 : Nat) : Int) else if x < l.length then (if (rd_T25 l j).f2 < (rd_T25 l x).f2 then spec_l16Order.l1 k l ((impl_byDep.l0 l).take i) (j : Int) ((j + 1 : Nat) : Int) else spec_l16Order.l1 k l ((impl_byDep.l0 l).take i) x ((j + 1 : Nat) : Int)) else none) ?_ (fun k => ?_)
          · refine Ev.bind hh ?_
            by_cases c : j ∈ (ordN l).take i
            · simp only [c, decide_true, if_true]
              exact ih2 x (bestAt_taken hx c)
            · simp only [c, decide_false, Bool.false_eq_true, if_false]
              by_cases c2 : x < 0
              · simp only [c2, if_true]
                exact ih2 _ (bestAt_first hx c c2)
              · obtain ⟨b, rfl⟩ : ∃ b : Nat, x = (b : Int) := ⟨x.toNat, by omega⟩
                have hb : b < j := by rcases hx with ⟨h1, _⟩ | ⟨b', h1, h2, _⟩ <;> omega
                have := ih2 _ (bestAt_next hx c)
                simp only [c2, if_false, show ((b : Nat) : Int) < (l.length : Int) by omega, if_true]
                by_cases c3 : (rd_T25 l j).f2 < (rd_T25 l b).f2
                · simp only [c3, if_true] at this ⊢; exact this
                · simp only [c3, if_false] at this ⊢; exact this
          · simp only [spec_l16Order.l1, show (j : Int) < (l.length : Int) by omega, if_true, w64s hj (show l.length ≤ 1000000000 by omega), show (0 : Int) ≤ (j : Int) by omega]
            congr 1
            funext t
            by_cases c : t = true
            · simp [c]
            · simp only [c]
              by_cases c2 : x < 0
              · simp [c2]
              · simp [c2, show 0 ≤ x by omega]
      refine ev_at (inner 0 (by omega) (-1) (Or.inl ⟨rfl, fun y hy => by omega⟩)) (fun k => ?_)
      simp only [spec_l16Order.l0]
      rw [if_pos (by omega)]
      rfl
  have := key 0 (Nat.zero_le _)
  simpa [spec_l16Order.f] using this
end Go.Proofs.Ytoalolbifakpiaa.Pure

/- The program's byDep: a contract by hand. -/
import Derived.Test.YtoalolbifakpiaaS8
import Derived.Test.YtoalolbifakpiaaS9
namespace Go.Proofs.Ytoalolbifakpiaa.P
open Go.Proofs Go.Shelf Go.RowKit Go.Lib Go.Sort Go.Proofs.YtoalolbifakpiaaW.PrintWords
set_option linter.unusedVariables false
set_option linter.unusedSimpArgs false

theorem sy_below {α : Type} [Inhabited α] (enc : α → Value) (W : World) (g off m base : Nat) (dk : Array α) (os : Array Obj) (hb : base ≤ g) (hg : g < W.heap.size) : Go.RowKit.Below base W (sortWorld enc W g off m dk os) := by
  refine ⟨rfl, rfl, rfl, ?_, fun k hk => ?_⟩
  · unfold sortWorld; rw [size_grow, Go.Sort.size_putRow]; show W.heap.size ≤ W.heap.size + _; omega
  · unfold sortWorld
    rw [heap_grow_old _ _ (by rw [Go.Sort.size_putRow]; show k < W.heap.size; omega)]
    have : g ≠ k := by omega
    simp [putRow, mapBlock, Sort.ahead, Array.getElem?_modify, this]
theorem sy_cell_other {α : Type} [Inhabited α] (enc : α → Value) (W : World) (g off m : Nat) (dk : Array α) (os : Array Obj) (a : Addr) (v : Value) (hne : a.block ≠ g) (h : W.cell? a = some v) : (sortWorld enc W g off m dk os).cell? a = some v := by
  unfold sortWorld
  rw [cell?_grow _ _ _ (by rw [Go.Sort.size_putRow]; exact World.block_lt_of_cell? W _ h), cell?_putRow_other _ _ _ _ _ _ (Or.inl hne)]
  exact h
theorem sy_holds {K : Nat} {W : World} {base g cap n : Nat} {ok : Nat → Prop} (d : Array (Fin (K + 1))) (hn : d.size = n) (h : Kd.R (Kd.int .i64) 3 W base ok (.slice (some ⟨g, 0, none⟩) n cap) (d.toList.map fun x => (x.val : Int))) : Holds sy_int W g 0 d := by
  intro j hj
  have hl : n = (d.toList.map fun x => (x.val : Int)).length := by simp [hn]
  rw [hl] at h
  have := Kd.R_cell 0 h (j : Int) (by omega) (by simp; omega)
  rw [Int.toNat_natCast] at this
  rw [Nat.zero_add]
  refine ⟨?_, this.2⟩
  rw [this.1]
  simp [rdOf, sy_int, hj, getElem!_pos]
theorem sy_back {K : Nat} {W W' : World} {base g cap n : Nat} {ok : Nat → Prop} (d d' : Array (Fin (K + 1))) (hn : d.size = n) (hn' : d'.size = n) (h : Kd.R (Kd.int .i64) 3 W base ok (.slice (some ⟨g, 0, none⟩) n cap) (d.toList.map fun x => (x.val : Int))) (hS : SW sy_int W g 0 d' W') : Kd.R (Kd.int .i64) 3 W' base ok (.slice (some ⟨g, 0, none⟩) n cap) (d'.toList.map fun x => (x.val : Int)) := by
  have h1 := h.1
  have ho := Kd.own_of_R h
  refine Kd.R_of_own ?_ h1
  obtain ⟨m, os, rfl⟩ := hS
  obtain ⟨h2, h3⟩ := ho
  rcases h3 with ⟨h3, _⟩ | ⟨g', cap', cur, hv, hg, hh, hc1, hc2, hc3, hc4⟩
  · exact absurd h3 (by simp)
  · injection hv with hv1 hv2 hv3
    injection hv1 with hv1
    injection hv1 with hv1
    subst hv1
    subst hv3
    have hl : (d'.toList.map fun x => (x.val : Int)).length = n := by simp [hn']
    have hl0 : (d.toList.map fun x => (x.val : Int)).length = n := by simp [hn]
    rw [hl0] at hc1
    refine ⟨by simp [encs], Or.inr ⟨g, cap, putCells sy_int 0 d' cur, by rw [hl], hg, ?_, by rw [hl]; exact hc1, hc2, by simp [putCells, hc3], ?_⟩⟩
    · have hlt : g < W.heap.size := (Array.getElem?_eq_some_iff.1 hh).1
      unfold sortWorld
      rw [heap_grow_old _ _ (by rw [Go.Sort.size_putRow]; exact hlt)]
      simp [putRow, mapBlock, Sort.ahead, Array.getElem?_modify, hh, onCells]
    · rw [hl]
      apply List.ext_getElem?
      intro j
      by_cases hj : j < n
      · rw [List.getElem?_take_of_lt (by omega), Array.getElem?_toList]
        simp [putCells, hn', hj, show j < cur.size by omega, encs, sy_int, getElem!_pos]
      · rw [List.getElem?_take_eq_none (by omega), List.getElem?_eq_none (by simp [encs]; omega)]

theorem sy_ids_get {K : Nat} (k : Nat) (h : k < K + 1) : ((Array.ofFn (fun i : Fin (K + 1) => i))[k]!).val = k := by
  rw [getElem!_pos _ k (by simpa using h)]
  simp
theorem sy_ids_list (K : Nat) : (Array.ofFn (fun i : Fin (K + 1) => i)).toList.map (fun x => (x.val : Int)) = (List.range (K + 1)).map (fun (i : Nat) => (i : Int)) := by
  apply List.ext_getElem
  · simp
  · intro i h1 h2
    rw [List.getElem_map, List.getElem_map, Array.getElem_toList, Array.getElem_ofFn, List.getElem_range]
theorem sy_sorted (K : Nat) (l : List S25) (hl : l.length = K + 1) (h : K + 1 ≤ 40) :
    (sy_stable (ltOf (fun x y : Fin (K + 1) => sy_cmp (rd_T25 l x.val).f2 (rd_T25 l y.val).f2)) (K + 1) (Array.ofFn (fun i : Fin (K + 1) => i))).toList.map (fun x => (x.val : Int)) = impl_byDep.l0 l := by
  have e : ltOf (fun x y : Fin (K + 1) => sy_cmp (rd_T25 l x.val).f2 (rd_T25 l y.val).f2) = sy_lt (fun x : Fin (K + 1) => (rd_T25 l x.val).f2) := by
    funext x y
    unfold ltOf sy_lt sy_cmp
    congr 1
    rw [eq_iff_iff]
    dsimp only
    constructor
    · intro h
      split at h
      · assumption
      · split at h <;> omega
    · intro h
      rw [if_pos h]
      omega
  rw [e]
  obtain ⟨P, S⟩ := sy_stable_ok (fun x : Fin (K + 1) => (rd_T25 l x.val).f2) (K + 1) (Array.ofFn (fun i : Fin (K + 1) => i)) h (by simp) (fun k hk => sy_ids_get k hk)
  obtain ⟨D, hD⟩ : ∃ q, sy_stable (sy_lt (fun x : Fin (K + 1) => (rd_T25 l x.val).f2)) (K + 1) (Array.ofFn (fun i : Fin (K + 1) => i)) = q := ⟨_, rfl⟩
  rw [hD] at P S ⊢
  obtain ⟨P1, _, P3⟩ := P
  rw [Array.size_ofFn] at P1
  have hperm : (D.toList.map (fun x => x.val)).Perm (List.range (K + 1)) := by
    have h1 : D.extract 0 (K + 1) = D := by
      apply Array.ext
      · simp [P1]
      · intro i h1 h2
        simp
    have h2 : (Array.ofFn (fun i : Fin (K + 1) => i)).extract 0 (K + 1) = Array.ofFn (fun i : Fin (K + 1) => i) := by
      apply Array.ext <;> simp
    rw [h1, h2] at P3
    have := P3.map (fun x => x.val)
    refine this.trans (List.Perm.of_eq ?_)
    apply List.ext_getElem
    · simp
    · intro i h1 h2
      rw [List.getElem_map, Array.getElem_toList, Array.getElem_ofFn, List.getElem_range]
  have hl' : D.toList.map (fun x => (x.val : Int)) = (D.toList.map (fun x => x.val)).map (fun (i : Nat) => (i : Int)) := by simp
  unfold impl_byDep.l0
  rw [hl', hl]
  congr 1
  refine List.Perm.eq_of_pairwise (le := fun a b => impl_byDep.l1 l a b = true) ?_ ?_ ?_ (hperm.trans (List.mergeSort_perm _ _).symm)
  · intro a b _ _ h1 h2
    simp only [impl_byDep.l1, decide_eq_true_eq] at h1 h2
    omega
  · rw [List.pairwise_map, List.pairwise_iff_getElem]
    intro i j hi hj hij
    simp only [Array.getElem_toList]
    simp only [Array.length_toList] at hi hj
    have := S i j (by omega) hij (by omega)
    rw [getElem!_pos D i hi, getElem!_pos D j hj] at this
    simp only [sy_lu, decide_eq_false_iff_not] at this
    simp only [impl_byDep.l1, decide_eq_true_eq]
    omega
  · refine List.pairwise_mergeSort ?_ ?_ _
    · intro a b c h1 h2
      simp only [impl_byDep.l1, decide_eq_true_eq] at h1 h2 ⊢
      omega
    · intro a b
      simp only [impl_byDep.l1, Bool.or_eq_true, decide_eq_true_eq]
      omega
end Go.Proofs.Ytoalolbifakpiaa.P

/- A block of rows of thirty numbers. -/
import Derived.Test.YtdpjoblnjjkbfaaDoorPx0
import Derived.BigQuiet
import Derived.Deep.QuietTactic
import Derived.BigRegion
namespace Go.Proofs.YtdpjoblnjjkbfaaDoor.P
open Go.RowKit Go.Proofs.YtdpjoblnjjkbfaaDoorW.PrintWords Go.Proofs.YtdpjoblnjjkbfaaDoorW.PrintLast Go.Proofs.YtdpjoblnjjkbfaaDoorW.PrintMore
attribute [local go_sem] max2_int min2_int max_two min_two max_three min_three max_four min_four   -- for this text's walks alone
set_option linter.unusedVariables false
set_option linter.unusedSimpArgs false

def zs30 : List Value := List.replicate 30 (.int .i64 0)
theorem hd_info74 : (Tryd.prog.info? 74).map (fun i => (i.zero, i.size, i.bytes)) = some (some (.agg zs30.toArray), 30, 240) := by kernel_rfl
/-- A row of n arrays of thirty numbers, as one list. -/
def AR (W : World) (g n cap : Nat) (o : List Int) : Prop := o.length = n * 30 ∧ n ≤ cap ∧ ∃ cur : Array Value, W.heap[g]? = some (.cells cur 74 (0, 0)) ∧ cur.size = cap * 30 ∧ ∀ i, i < n * 30 → cur[i]? = some (.int .i64 (o.getD i 0))
theorem ar_cell {W : World} {g n cap : Nat} {o : List Int} (h : AR W g n cap o) (i : Nat) (hi : i < n * 30) : W.cell? ⟨g, i, none⟩ = some (.int .i64 (o.getD i 0)) ∧ W.frozen? ⟨g, i, none⟩ = false := by
  obtain ⟨_, _, cur, hc, _, hv⟩ := h
  exact ⟨by rw [blk_cell hc]; exact hv i hi, blk_frozen hc i⟩
theorem ar_set {W : World} {g n cap : Nat} {o : List Int} (h : AR W g n cap o) (i : Nat) (v : Int) : AR (W.setCell ⟨g, i, none⟩ (.int .i64 v)) g n cap (o.set i v) := by
  obtain ⟨h1, h2, cur, hc, hs, hv⟩ := h
  refine ⟨by rw [List.length_set]; exact h1, h2, cur.setIfInBounds i (.int .i64 v), blk_set hc i _, by rw [Array.size_setIfInBounds]; exact hs, fun j hj => ?_⟩
  have hj2 : j < cap * 30 := Nat.lt_of_lt_of_le hj (Nat.mul_le_mul_right 30 h2)
  rw [Array.getElem?_setIfInBounds, List.getD_eq_getElem?_getD, List.getElem?_set]
  by_cases e : i = j
  · rw [if_pos e, if_pos e, if_pos (by omega), if_pos (by omega)]; rfl
  · rw [if_neg e, if_neg e, ← List.getD_eq_getElem?_getD]; exact hv j hj
theorem ar_below {W W' : World} {g n cap : Nat} {o : List Int} (h : AR W g n cap o) (hb : Below W.heap.size W W') : AR W' g n cap o := by
  obtain ⟨h1, h2, cur, hc, hs, hv⟩ := h
  exact ⟨h1, h2, cur, blk_below hc hb, hs, hv⟩
theorem ar_made {W : World} {base n : Nat} {ok : Nat → Prop} {v : Value} (hn : 0 < n) (h : (Kd.raw 30).R 74 W base ok v (List.replicate n zs30)) : ∃ g cap, v = .slice (some ⟨g, 0, none⟩) n cap ∧ base ≤ g ∧ AR W g n cap (List.replicate (n * 30) 0) := by
  obtain ⟨_, inner, ho, hr⟩ := h
  rw [List.length_replicate] at ho
  obtain ⟨hl, ho⟩ := ho
  rcases ho with ⟨_, e⟩ | ⟨g, cap, cur, rfl, hg, hh, h1, h2, h3, h4⟩
  · omega
  · refine ⟨g, cap, rfl, hg, by simp, h1, cur, hh, h3, fun i hi => ?_⟩
    have hj : i / 30 < n := by omega
    have hp := hr.2 (i / 30) zs30 (by rw [List.getElem?_replicate, if_pos hj])
    have hm : i % 30 < 30 := Nat.mod_lt _ (by omega)
    have e1 : inner[i]? = some (.int .i64 0) := by
      have h5 : ((inner.drop (i / 30 * 30)).take 30)[i % 30]? = zs30[i % 30]? := by
        have := hp.1
        show ((inner.drop (i / 30 * (Kd.raw 30).sz)).take (Kd.raw 30).sz)[i % 30]? = _
        rw [this]
      rw [List.getElem?_take_of_lt hm, List.getElem?_drop] at h5
      have e : i / 30 * 30 + i % 30 = i := by omega
      rw [e] at h5
      rw [h5]
      unfold zs30
      rw [List.getElem?_replicate, if_pos hm]
    have e2 : cur[i]? = inner[i]? := by
      rw [← h4, List.getElem?_take_of_lt (by exact hi), Array.getElem?_toList]
    rw [e2, e1, List.getD_eq_getElem?_getD, List.getElem?_replicate, if_pos hi]
    rfl
theorem ar_far {W : World} {g n cap : Nat} {o : List Int} (h : AR W g n cap o) {gb : Nat} (hne : g ≠ gb) (j : Nat) (v : Value) : AR (W.setCell ⟨gb, j, none⟩ v) g n cap o := by
  obtain ⟨h1, h2, cur, hc, hs, hv⟩ := h
  exact ⟨h1, h2, cur, blk_far hc (p := ⟨gb, j, none⟩) hne v, hs, hv⟩
theorem ar_lt {W : World} {g n cap : Nat} {o : List Int} (h : AR W g n cap o) : g < W.heap.size := by
  obtain ⟨h1, h2, cur, hc, hs, hv⟩ := h
  exact blk_lt hc
theorem ar_drewN {W : World} {g n cap : Nat} {o : List Int} (h : AR W g n cap o) (m : Nat) : AR (W.drewN m) g n cap o := h
def ar_fill (n k : Nat) (o : List Int) : Prop := ∀ j, j < k → o.getD j 0 = 100001
theorem ar_fill_step (n k : Nat) (o : List Int) (hl : o.length = n * 30) (h : ar_fill n k o) (hk : k < n * 30) : ar_fill n (k + 1) (o.set k 100001) := by
  intro j hj
  rw [List.getD_eq_getElem?_getD, List.getElem?_set]
  by_cases e : k = j
  · rw [if_pos e, if_pos (by omega)]; rfl
  · rw [if_neg e, ← List.getD_eq_getElem?_getD]; exact h j (by omega)
theorem ar_fill_end (n : Nat) (o : List Int) (hl : o.length = n * 30) (h : ar_fill n (n * 30) o) : o = List.replicate (n * 30) 100001 := by
  apply List.ext_getElem
  · rw [hl]; simp
  · intro i h1 h2
    have := h i (by omega)
    rw [List.getD_eq_getElem?_getD, List.getElem?_eq_getElem h1] at this
    rw [List.getElem_replicate]
    exact this
theorem ar_min (a b : Int) : (if b < a then b else a) = min a b := by
  rw [Int.min_def]; split <;> split <;> omega
theorem ar_drew {W : World} {g n cap : Nat} {o : List Int} (h : AR W g n cap o) : AR W.drew g n cap o := h
theorem ar_take {α β : Type} (f : β → α → β) (b : β) (l : List α) (i : Nat) (h : i < l.length) : (l.take (i + 1)).foldl f b = f ((l.take i).foldl f b) l[i] := by
  rw [List.take_succ_eq_append_getElem h, List.foldl_append]
  rfl
theorem ar_rd46 (l : List S46) (j : Nat) (h : j < l.length) : rd_T46 l (j : Int) = l[j] := by
  unfold rd_T46; rw [Int.toNat_natCast]; simp [List.getD_eq_getElem?_getD, h]
theorem ar_rd43 (l : List S43) (j : Nat) (h : j < l.length) : rd_T43 l (j : Int) = l[j] := by
  unfold rd_T43; rw [Int.toNat_natCast]; simp [List.getD_eq_getElem?_getD, h]
end Go.Proofs.YtdpjoblnjjkbfaaDoor.P

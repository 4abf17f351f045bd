/- Contracts of the functions of the program, each one with its plain Lean function; written by a program of the session out of the translation. -/
import Derived.Deep.RegionLaw
import Derived.Lib.AppendZeros
import Derived.Lib.AppendZerosOnto
import Derived.Lib.Overlaps
import Derived.Shelf.Spec.SlicesInsert
import Derived.Test.YtklikbjlfaednaaPx0
import Derived.Test.YtklikbjlfaednaaPx10
namespace Go.Proofs.Ytklikbjlfaednaa.P
open Go.RowKit Go.Proofs.YtklikbjlfaednaaW.PrintWords Go.Proofs.YtklikbjlfaednaaW.PrintLast Go.Proofs.YtklikbjlfaednaaW.PrintMore
attribute [local go_sem] max2_int min2_int max_two min_two max_three min_three max_four min_four   -- for this text's walks alone
set_option linter.unusedVariables false
set_option linter.unusedSimpArgs false

/-! ### impl_Booking_78: function 78, by hand -/

theorem hd_copy66 (w : World) (ty : TypeId) (g o dLen dCap : Nat) (a : Addr) (sLen sCap m : Nat) (cur : Array Value) (cs : List Value) (hg : w.heap[g]? = some (.cells cur 66 (0, 0))) (hm : Nat.min sLen dLen = m) (hn : cs.length = m * 4)
    (hsrc : ∀ j v, cs[j]? = some v → w.cell? (a.add j) = some v) (hfit : o + cs.length ≤ cur.size) (h1 : ∀ v ∈ cs, v.oneCell' = true) :
    (Builtin.copy_ #[27, 27] ty #[.slice (some ⟨g, o, none⟩) dLen dCap, .slice (some a) sLen sCap]).run Try.prog w = .ok (goInt m) (w.setRow g (cur.toList.take o ++ cs ++ cur.toList.drop (o + cs.length)).toArray) := by
  obtain ⟨i0, hi0, hz0, hz1, hz2⟩ := info_parts info66
  have hl := run_loadCells_list (P := Try.prog) w a cs hsrc
  have hst := run_storeCells_at Try.prog g o 66 cs 0 cur w hg (by simpa using hfit) h1
  simp only [Nat.add_zero] at hst
  rw [hn] at hl
  simp [Builtin.copy_, run_underlying Try.underlying27, Builtin.lenOf, Builtin.firstCells, sizeOf, typeInfo, hi0, hz1, hm, hl, hst]
theorem flat66_put (l : List S66) (i : Nat) (y : S66) : flat66 (impl_Book.l5 l i y) = flat66 (l.take i) ++ cells66 y ++ flat66 (l.drop i) := by
  unfold impl_Book.l5
  rw [flat66_append]
  unfold flat66
  rw [List.flatMap_cons, List.append_assoc]
theorem hd_put_length (l : List S66) (i : Nat) (y : S66) (h : i ≤ l.length) : (impl_Book.l5 l i y).length = l.length + 1 := by
  unfold impl_Book.l5
  rw [List.length_append, List.length_cons, List.length_take, List.length_drop]
  omega
theorem hd_overlaps (w : World) (gv g o lb cb : Nat) (cv cur : Array Value) (hv : w.heap[gv]? = some (.cells cv 66 (0, 0))) (hg : w.heap[g]? = some (.cells cur 66 (0, 0))) (hne : gv ≠ g) (hk : cur.size ≠ 0) :
    (callFunc 83 #[.slice (some ⟨gv, 0, none⟩) 1 1, .slice (some ⟨g, o, none⟩) lb cb]).run Try.prog w = .ok (.value (.bool false)) w := by
  obtain ⟨i0, hi0, hz0, hz1, hz2⟩ := info_parts info66
  have hz : ∀ w, (Go.sizeOf 66).run Try.prog w = .ok 4 w := fun w => by simp [sizeOf, typeInfo, hi0, hz1]
  rw [run_callFunc_extern Try.func83 (by kernel_rfl) (by kernel_rfl) (by kernel_rfl) (e := Extern.SlicesOverlaps.overlaps #[27, 27] #[4]) (by kernel_rfl),
    Lib.run_overlaps_apart w 27 4 66 Try.underlying27 4 hz ⟨gv, 0, none⟩ ⟨g, o, none⟩ 1 1 lb cb hne 66 66 cv.size cur.size (by simp [World.shape?, hv]) (by simp [World.shape?, hg]) hk (blk_frozen hv 0) (blk_frozen hv cv.size)]
  rfl
set_option maxHeartbeats 4000000 in
set_option maxRecDepth 100000 in
theorem hd_insert_end (base : Nat) (A : Option Addr) (c : Nat) (l : List S66) (gv : Nat) (y : S66) (w : World) (hl : l.length ≤ 1000000) (hbase : base ≤ w.heap.size) (ho : w.ownsRow base 66 4 (.slice A l.length c) l.length (flat66 l)) (hv : w.heap[gv]? = some (.cells (cells66 y).toArray 66 (0, 0))) :
    Calls Try.prog 78 #[.slice A l.length c, .int .i64 (l.length : Int), .slice (some ⟨gv, 0, none⟩) 1 1] w fun e w' => ∃ v', e = .returned v' ∧ w'.ownsRow base 66 4 v' (l.length + 1) (flat66 (impl_Book.l5 l l.length y)) ∧ w.grownBy w' (Value.slice A l.length c).ownBlock := by
  obtain ⟨i0, hi0, hz0, hz1, hz2⟩ := info_parts info66
  obtain ⟨v', w', hrun, hown, hgr, _⟩ : ∃ v' w', (∀ ty, (Builtin.append_ #[27, 27] ty #[.slice A l.length c, .slice (some ⟨gv, 0, none⟩) 1 1]).run Try.prog w = .ok v' w') ∧ w'.ownsRow base 66 4 v' (l.length + 1) (flat66 l ++ cells66 y) ∧ w.grownBy w' (Value.slice A l.length c).ownBlock ∧ True := by
    obtain ⟨v', w', h1, h2, h3, _⟩ := run_append_own (P := Try.prog) w base 27 27 66 i0 _ 4 32 Try.underlying27 hi0 hz0 hz1 hz2 rfl (by decide) (.slice A l.length c) l.length (flat66 l) ho ⟨gv, 0, none⟩ 1 1 (cells66 y) rfl
      (fun j u hu => by rw [add_plain]; exact (blk_cell hv j).trans (by simpa using hu)) (fun u hu => flat66_one [y] u (by simpa [flat66] using hu)) (by unfold maxLen; omega) (by omega) hbase
    exact ⟨v', w', fun ty => h1, h2, h3, trivial⟩
  have FIN : Hid (w'.ownsRow base 66 4 v' (l.length + 1) (flat66 (impl_Book.l5 l l.length y)) ∧ w.grownBy w' (Value.slice A l.length c).ownBlock) := ⟨by
    rw [flat66_put, List.take_length, List.drop_length]
    simpa [flat66] using hown, hgr⟩
  have hr : Hid (∀ ty, (Builtin.append_ #[27, 27] ty #[.slice A l.length c, .slice (some ⟨gv, 0, none⟩) 1 1]).run Try.prog w = .ok v' w') := hrun
  have hcap : c ≤ 9223372036854775807 ∧ l.length ≤ c := by
    rcases ho.2 with ⟨h1, h2⟩ | ⟨_, cap, _, h1, _, _, h4, h3, _⟩
    · injection h1 with _ _ h1; omega
    · injection h1 with _ _ h1
      unfold maxLen at h3
      omega
  obtain ⟨hc1, hc2⟩ := hcap
  have hc3 : (l.length : Int) ≤ 1000000 := by omega
  clear hrun hown hgr ho hv hi0 hz0 hz1 hz2
  generalize (Value.slice A l.length c).ownBlock = ob at FIN ⊢
  go_enter Try.func78, Try.ntmps78
  go_wp2_with (at_builtin; refine Lib.wpList_append_run _ rfl _ _ _ _ rfl _ _ rfl rfl _ _ (hr.out _) ?_)
  all_goals (go_ret; exact ⟨_, rfl, FIN.out⟩)
set_option maxHeartbeats 8000000 in
set_option maxRecDepth 1000000 in
theorem hd_insert_room (base : Nat) (g c : Nat) (l : List S66) (i gv : Nat) (y : S66) (w : World) (hi : i < l.length) (hl : l.length ≤ 1000000) (hroom : l.length + 1 ≤ c) (ho : w.ownsRow base 66 4 (.slice (some ⟨g, 0, none⟩) l.length c) l.length (flat66 l)) (hv : w.heap[gv]? = some (.cells (cells66 y).toArray 66 (0, 0))) (hne : gv ≠ g) :
    Calls Try.prog 78 #[.slice (some ⟨g, 0, none⟩) l.length c, .int .i64 (i : Int), .slice (some ⟨gv, 0, none⟩) 1 1] w fun e w' => ∃ v', e = .returned v' ∧ w'.ownsRow base 66 4 v' (l.length + 1) (flat66 (impl_Book.l5 l i y)) ∧ w.grownBy w' (some g) := by
  rcases ho.2 with ⟨h0, _⟩ | ⟨g', cap, cur, hvv, hbg, hgg, hnc, hcm, hcs, htake⟩
  · cases h0
  injection hvv with hg' _ hcap
  injection hg' with hg'
  injection hg' with hg'
  subst hg'; subst hcap
  obtain ⟨n, hn⟩ : ∃ n, n = l.length := ⟨_, rfl⟩
  rw [← hn] at hi hl hroom hnc htake ⊢
  have hcl : cur.toList.length = c * 4 := by rw [Array.length_toList]; exact hcs
  have hfl : (flat66 (l.drop i)).length = (n - i) * 4 := by rw [flat66_length, List.length_drop, hn]
  -- the shift
  obtain ⟨cur1, hcur1⟩ : ∃ cur1, cur1 = (cur.toList.take ((i + 1) * 4) ++ flat66 (l.drop i) ++ cur.toList.drop ((i + 1) * 4 + (flat66 (l.drop i)).length)).toArray := ⟨_, rfl⟩
  have hs1 : cur1.size = c * 4 := by
    rw [hcur1]
    simp only [List.size_toArray, List.length_append, List.length_take, List.length_drop, hcl, hfl]
    omega
  have hget : ∀ t u, (flat66 (l.drop i))[t]? = some u → cur[i * 4 + t]? = some u := by
    intro t u hu
    have ht : t < (n - i) * 4 := by have := (List.getElem?_eq_some_iff.1 hu).1; omega
    rw [flat66_drop, ← htake, List.getElem?_drop, List.getElem?_take, if_pos (by omega)] at hu
    simpa using hu
  obtain ⟨W1, hW1⟩ : ∃ W1, W1 = w.drew.setRow g cur1 := ⟨_, rfl⟩
  have hcp1 : Hid (∀ ty, (Builtin.copy_ #[27, 27] ty #[.slice (some ⟨g, (i + 1) * 4, none⟩) (n + 1 - (i + 1)) (c - (i + 1)), .slice (some ⟨g, i * 4, none⟩) (n + 1 - i) (c - i)]).run Try.prog w.drew = .ok (goInt (n - i : Nat)) W1) := fun ty => by
    rw [hW1, hcur1]
    exact hd_copy66 w.drew ty g ((i + 1) * 4) _ _ ⟨g, i * 4, none⟩ _ _ (n - i) cur (flat66 (l.drop i)) hgg (by simp only [Nat.min_def]; split <;> omega) hfl
      (fun t u hu => by rw [Addr.add_lit]; exact (cell_of_row w g _ cur 66 (0, 0) hgg).trans (hget t u hu)) (by rw [hfl, hcs]; omega) (flat66_one _)
  have hg1 : W1.heap[g]? = some (.cells cur1 66 (0, 0)) := by rw [hW1]; exact setRow_heap w.drew g cur cur1 66 (0, 0) hgg
  have hv1 : W1.heap[gv]? = some (.cells (cells66 y).toArray 66 (0, 0)) := by rw [hW1, setRow_other _ _ _ _ hne]; exact hv
  obtain ⟨cur2, hcur2⟩ : ∃ cur2, cur2 = (cur1.toList.take (i * 4) ++ cells66 y ++ cur1.toList.drop (i * 4 + (cells66 y).length)).toArray := ⟨_, rfl⟩
  obtain ⟨W2, hW2⟩ : ∃ W2, W2 = W1.setRow g cur2 := ⟨_, rfl⟩
  have hcp2 : Hid (∀ ty, (Builtin.copy_ #[27, 27] ty #[.slice (some ⟨g, i * 4, none⟩) (n + 1 - i) (c - i), .slice (some ⟨gv, 0, none⟩) 1 1]).run Try.prog W1 = .ok (goInt (1 : Nat)) W2) := fun ty => by
    rw [hW2, hcur2]
    exact hd_copy66 W1 ty g (i * 4) _ _ ⟨gv, 0, none⟩ _ _ 1 cur1 (cells66 y) hg1 (by simp only [Nat.min_def]; split <;> omega) rfl
      (fun t u hu => by rw [add_plain]; exact (blk_cell hv1 t).trans (by simpa using hu)) (by rw [hs1]; show i * 4 + 4 ≤ _; omega) (fun u hu => flat66_one [y] u (by simpa [flat66] using hu))
  have FIN : Hid (W2.ownsRow base 66 4 (.slice (some ⟨g, 0, none⟩) (n + 1) c) (n + 1) (flat66 (impl_Book.l5 l i y)) ∧ w.grownBy W2 (some g)) := by
    have e0 : cur.toList.take (i * 4) = flat66 (l.take i) := by
      rw [flat66_take, ← htake, List.take_take, show min (i * 4) (n * 4) = i * 4 by omega]
    have e0l : (flat66 (l.take i)).length = i * 4 := by rw [flat66_length, List.length_take]; omega
    have e1 : cur1.toList.take (i * 4) = flat66 (l.take i) := by
      rw [hcur1, List.append_assoc, List.take_append_of_le_length (by rw [List.length_take, hcl]; omega), List.take_take, show min (i * 4) ((i + 1) * 4) = i * 4 by omega, e0]
    have e2 : ∃ R, cur1.toList.drop (i * 4 + 4) = flat66 (l.drop i) ++ R := by
      refine ⟨cur.toList.drop ((i + 1) * 4 + (flat66 (l.drop i)).length), ?_⟩
      rw [hcur1, List.append_assoc, List.drop_left' (by rw [List.length_take, hcl]; omega)]
    obtain ⟨R, e2⟩ := e2
    have e3 : (flat66 (impl_Book.l5 l i y)).length = (n + 1) * 4 := by rw [flat66_length, hd_put_length l i y (by omega), hn]
    refine ⟨⟨e3, .inr ⟨g, c, cur2, rfl, hbg, by rw [hW2]; exact setRow_heap W1 g cur1 cur2 66 (0, 0) hg1, hroom, hcm, ?_, ?_⟩⟩, ⟨by rw [hW2, hW1]; rfl, by rw [hW2, hW1]; rfl, by rw [hW2, hW1]; rfl, by rw [hW2, hW1]; simp [World.setRow], fun k hk hkg => ?_⟩⟩
    · rw [hcur2]
      simp only [List.size_toArray, List.length_append, List.length_take, List.length_drop, Array.length_toList, hs1]
      show min (i * 4) (c * 4) + 4 + (c * 4 - (i * 4 + 4)) = _
      omega
    · have : (cells66 y).length = 4 := rfl
      rw [hcur2, e1, this, e2, ← List.append_assoc, List.take_left' (by rw [← flat66_put, e3]), flat66_put]
    · have hkg : k ≠ g := fun e => hkg (by rw [e])
      rw [hW2, setRow_other _ _ _ _ hkg, hW1, setRow_other _ _ _ _ hkg]
      rfl
  have hov := fun lb cb => hd_overlaps w gv g ((i + 1) * 4) lb cb _ cur hv hgg hne (by rw [hcs]; omega)
  have hz1 : ¬ i = n := by omega
  have hz1b : (i == n) = false := by simpa using hz1
  have hz3 : ¬ (c : Int) < (n : Int) + 1 := by omega
  have hin : i ≤ n := by omega
  have p0 : (0 : Int) ≤ (i : Int) + 1 := by omega
  have p2 : ((i : Int) + 1).toNat = i + 1 := by omega
  have p3 : ¬ c = i + 1 := by omega
  have p4 : ¬ c = i := by omega
  have p5 : (i : Int) ≤ (n : Int) + 1 := by omega
  have p6 : (i : Int) ≤ (n : Int) := by omega
  have p8 : c ≤ 9223372036854775807 := by unfold maxLen at hcm; omega
  clear hcur1 hcur2 hW1 hW2 hg1 hv1 hs1 hget hcl hcs htake hgg hcm hv ho hne hfl hn
  go_enter Try.func78, Try.ntmps78
  go_wp2_with (simp only [hov])
  have hw1 : IntKind.i64.wrap ((i : Int) + 1) = (i : Int) + 1 := by rw [IntKind.wrap_i64]; omega
  have p9 : (i : Int) + 1 ≤ (n : Int) + 1 := by omega
  go_region_law (refine step_copy_runI rfl _ _ 27 27 rfl _ _ (by simp [Act.eval, Act.put]) (by simp [Act.eval, Act.put]) (hcp1.out _) ?_)
  go_wp2_with ((with_reducible refine gate_builtin (b := .copy) (xs := #[.tmp 80, .tmp 81]) rfl ?_); refine wpList_copy_runI _ rfl _ _ 27 27 rfl _ _ rfl rfl (hcp2.out _) ?_)
  go_ret
  exact ⟨_, rfl, FIN.out⟩

set_option maxHeartbeats 8000000 in
set_option maxRecDepth 1000000 in
theorem hd_insert_grow (base : Nat) (g : Nat) (l : List S66) (i gv : Nat) (y : S66) (w : World) (hi : i < l.length) (hl : l.length ≤ 1000000) (hbase : base ≤ w.heap.size) (ho : w.ownsRow base 66 4 (.slice (some ⟨g, 0, none⟩) l.length l.length) l.length (flat66 l)) (hv : w.heap[gv]? = some (.cells (cells66 y).toArray 66 (0, 0))) :
    Calls Try.prog 78 #[.slice (some ⟨g, 0, none⟩) l.length l.length, .int .i64 (i : Int), .slice (some ⟨gv, 0, none⟩) 1 1] w fun e w' => ∃ v', e = .returned v' ∧ w'.ownsRow base 66 4 v' (l.length + 1) (flat66 (impl_Book.l5 l i y)) ∧ w.grownBy w' (some g) := by
  rcases ho.2 with ⟨h0, _⟩ | ⟨g', cap, cur, hvv, hbg, hgg, hnc, hcm, hcs, htake⟩
  · cases h0
  injection hvv with hg' _ hcap
  injection hg' with hg'
  injection hg' with hg'
  subst hg'; subst hcap
  obtain ⟨i0, hi0, hz0, hz1, hz2⟩ := info_parts info66
  obtain ⟨n, hn⟩ : ∃ n, n = l.length := ⟨_, rfl⟩
  rw [← hn] at hi hl htake hcs ⊢
  have hcl : cur.toList.length = n * 4 := by rw [Array.length_toList]; exact hcs
  have hfl : (flat66 (l.drop i)).length = (n - i) * 4 := by rw [flat66_length, List.length_drop, hn]
  have e0l : (flat66 (l.take i)).length = i * 4 := by rw [flat66_length, List.length_take]; omega
  have hget : ∀ t u, (flat66 (l.drop i))[t]? = some u → cur[i * 4 + t]? = some u := by
    intro t u hu
    have ht : t < (n - i) * 4 := by have := (List.getElem?_eq_some_iff.1 hu).1; omega
    rw [flat66_drop, ← htake, List.getElem?_drop, List.getElem?_take, if_pos (by omega)] at hu
    simpa using hu
  have hold : (Builtin.firstCells i0.size i (.slice (some ⟨g, 0, none⟩) i n)).run Try.prog w.drew = .ok (flat66 (l.take i)).toArray w.drew := by
    rw [hz1]
    exact run_firstCells_some w.drew 4 i ⟨g, 0, none⟩ i n (flat66 (l.take i)) e0l (fun j v hj => by
      have hlt := (List.getElem?_eq_some_iff.1 hj).1
      rw [add_plain]
      refine (cell_of_row w g _ cur 66 (0, 0) hgg).trans ?_
      rw [flat66_take, ← htake, List.getElem?_take, if_pos (by omega), List.getElem?_take, if_pos (by omega)] at hj
      simpa using hj)
  obtain ⟨G, hG⟩ : ∃ G, G = grownCap w (n + 1) n 66 := ⟨_, rfl⟩
  obtain ⟨ROW, hROW⟩ : ∃ ROW : Array Value, ROW = (flat66 (l.take i)).toArray ++ Builtin.zeroCells (Value.agg #[Value.int .i64 0, Value.int .i64 0, Value.int .i64 0, Value.int .i64 0]).cells (n + 1 - i) ++ Builtin.zeroCells (Value.agg #[Value.int .i64 0, Value.int .i64 0, Value.int .i64 0, Value.int .i64 0]).cells (G - (n + 1)) := ⟨_, rfl⟩
  obtain ⟨W1, hW1⟩ : ∃ W1, W1 = w.drew.alloc (.cells ROW 66) := ⟨_, rfl⟩
  obtain ⟨N, hN⟩ : ∃ N, N = w.heap.size := ⟨_, rfl⟩
  have hik : i + (n + 1 - i) = n + 1 := by omega
  have hkk : (n : Int) + 1 - (i : Int) = ((n + 1 - i : Nat) : Int) := by omega
  have hrz : Hid (∀ ty, (Builtin.append_ #[27, 3] ty #[.slice (some ⟨g, 0, none⟩) i n, .int .i64 ((n : Int) + 1 - (i : Int))]).run Try.prog w = .ok (.slice (some ⟨N, 0, none⟩) (n + 1) G) W1) := fun ty => by
    have h := Lib.run_append_grow_zeros w 27 3 ty 66 i0 _ .i64 .i64 Try.underlying27 Try.underlying3 hi0 hz0 (some ⟨g, 0, none⟩) i n (flat66 (l.take i)) hold (n + 1 - i) (by omega) (by omega) (by omega) (by omega) (by rw [hz2]; omega) (by rw [hz2, hik]; exact growslice_fits (by omega) (by omega))
    rw [hik, ← hG, ← hROW, ← hW1, ← hN] at h
    rw [hkk]
    exact h
  have hGn : n + 1 ≤ G := by rw [hG]; exact grownCap_ge w _ _ _
  have hGm : G ≤ maxLen := by rw [hG]; exact grownCap_le_maxLen w (n + 1) n 66 (by unfold maxLen; omega)
  have hRs : ROW.size = G * 4 := by
    rw [hROW]
    simp only [Array.size_append, List.size_toArray, size_zeroCells, e0l]
    show i * 4 + (n + 1 - i) * 4 + (G - (n + 1)) * 4 = _
    omega
  have hR0 : ROW.toList.take (i * 4) = flat66 (l.take i) := by
    rw [hROW, Array.append_assoc, Array.toList_append, List.take_left' (by simpa using e0l)]
  have hgN : g < N := by rw [hN]; exact blk_lt hgg
  have hvN : gv < N := by rw [hN]; exact blk_lt hv
  have hg1 : W1.heap[N]? = some (.cells ROW 66 (0, 0)) := by rw [hW1, hN]; exact blk_new w.drew _
  have hv1 : W1.heap[gv]? = some (.cells (cells66 y).toArray 66 (0, 0)) := by rw [hW1]; exact blk_alloc (w := w.drew) hv _
  have ho1 : W1.heap[g]? = some (.cells cur 66 (0, 0)) := by rw [hW1]; exact blk_alloc (w := w.drew) hgg _
  obtain ⟨cur2, hcur2⟩ : ∃ cur2, cur2 = (ROW.toList.take (i * 4) ++ cells66 y ++ ROW.toList.drop (i * 4 + (cells66 y).length)).toArray := ⟨_, rfl⟩
  obtain ⟨W2, hW2⟩ : ∃ W2, W2 = W1.setRow N cur2 := ⟨_, rfl⟩
  have hcpA : Hid (∀ ty, (Builtin.copy_ #[27, 27] ty #[.slice (some ⟨N, i * 4, none⟩) (n + 1 - i) (G - i), .slice (some ⟨gv, 0, none⟩) 1 1]).run Try.prog W1 = .ok (goInt (1 : Nat)) W2) := fun ty => by
    rw [hW2, hcur2]
    exact hd_copy66 W1 ty N (i * 4) _ _ ⟨gv, 0, none⟩ _ _ 1 ROW (cells66 y) hg1 (by simp only [Nat.min_def]; split <;> omega) rfl
      (fun t u hu => by rw [add_plain]; exact (blk_cell hv1 t).trans (by simpa using hu)) (by rw [hRs]; show i * 4 + 4 ≤ _; omega) (fun u hu => flat66_one [y] u (by simpa [flat66] using hu))
  have hs2 : cur2.size = G * 4 := by
    rw [hcur2]
    simp only [List.size_toArray, List.length_append, List.length_take, List.length_drop, Array.length_toList, hRs]
    show min (i * 4) (G * 4) + 4 + (G * 4 - (i * 4 + 4)) = _
    omega
  have hg2 : W2.drew.heap[N]? = some (.cells cur2 66 (0, 0)) := by rw [hW2]; exact setRow_heap W1 N ROW cur2 66 (0, 0) hg1
  have ho2 : W2.drew.heap[g]? = some (.cells cur 66 (0, 0)) := by
    show W2.heap[g]? = _
    rw [hW2, setRow_other _ _ _ _ (by omega)]; exact ho1
  obtain ⟨cur3, hcur3⟩ : ∃ cur3, cur3 = (cur2.toList.take ((i + 1) * 4) ++ flat66 (l.drop i) ++ cur2.toList.drop ((i + 1) * 4 + (flat66 (l.drop i)).length)).toArray := ⟨_, rfl⟩
  obtain ⟨W3, hW3⟩ : ∃ W3, W3 = W2.drew.setRow N cur3 := ⟨_, rfl⟩
  have hcpB : Hid (∀ ty, (Builtin.copy_ #[27, 27] ty #[.slice (some ⟨N, (i + 1) * 4, none⟩) (n + 1 - (i + 1)) (G - (i + 1)), .slice (some ⟨g, i * 4, none⟩) (n - i) (n - i)]).run Try.prog W2.drew = .ok (goInt (n - i : Nat)) W3) := fun ty => by
    rw [hW3, hcur3]
    exact hd_copy66 W2.drew ty N ((i + 1) * 4) _ _ ⟨g, i * 4, none⟩ _ _ (n - i) cur2 (flat66 (l.drop i)) hg2 (by simp only [Nat.min_def]; split <;> omega) hfl
      (fun t u hu => by rw [Addr.add_lit]; exact (blk_cell ho2 _).trans (hget t u hu)) (by rw [hfl, hs2]; omega) (flat66_one _)
  have FIN : Hid (W3.ownsRow base 66 4 (.slice (some ⟨N, 0, none⟩) (n + 1) G) (n + 1) (flat66 (impl_Book.l5 l i y)) ∧ w.grownBy W3 (some g)) := by
    have e3 : (flat66 (impl_Book.l5 l i y)).length = (n + 1) * 4 := by rw [flat66_length, hd_put_length l i y (by omega), hn]
    have h4 : (cells66 y).length = 4 := rfl
    have e2 : cur2.toList.take ((i + 1) * 4) = flat66 (l.take i) ++ cells66 y := by
      rw [hcur2, hR0]
      show List.take _ (flat66 (l.take i) ++ cells66 y ++ _) = _
      rw [List.take_left' (by rw [List.length_append, e0l, h4]; omega)]
    refine ⟨⟨e3, .inr ⟨N, G, cur3, rfl, by omega, by rw [hW3]; exact setRow_heap W2.drew N cur2 cur3 66 (0, 0) hg2, hGn, hGm, ?_, ?_⟩⟩, ⟨by rw [hW3, hW2, hW1]; rfl, by rw [hW3, hW2, hW1]; rfl, by rw [hW3, hW2, hW1]; rfl, by rw [hW3, hW2, hW1]; simp [World.setRow], fun k hk hkg => ?_⟩⟩
    · rw [hcur3]
      simp only [List.size_toArray, List.length_append, List.length_take, List.length_drop, Array.length_toList, hs2, hfl]
      omega
    · rw [hcur3, e2]
      show List.take _ (flat66 (l.take i) ++ cells66 y ++ flat66 (l.drop i) ++ _) = _
      rw [← flat66_put, List.take_left' e3]
    · have hkN : k ≠ N := by omega
      rw [hW3, setRow_other _ _ _ _ hkN]
      show W2.heap[k]? = _
      rw [hW2, setRow_other _ _ _ _ hkN, hW1]
      exact Below.heap_alloc w.drew _ k hk
  have hz1 : ¬ i = n := by omega
  have hin : i ≤ n := by omega
  have p0 : (0 : Int) ≤ (i : Int) + 1 := by omega
  have p2 : ((i : Int) + 1).toNat = i + 1 := by omega
  have p3 : ¬ G = i + 1 := by omega
  have p4 : ¬ G = i := by omega
  have p4n : ¬ n = i := by omega
  have p5 : (i : Int) ≤ (n : Int) + 1 := by omega
  have p6 : (i : Int) ≤ (n : Int) := by omega
  have p8 : G ≤ 9223372036854775807 := by unfold maxLen at hGm; omega
  clear hcur2 hcur3 hROW hG hW1 hW2 hW3 hg1 hv1 ho1 hg2 ho2 hs2 hRs hR0 hget hcl hcs htake hgg hcm hv ho hfl hn e0l hold hik hkk hi0 hz0 hz2 hGm hgN hvN hN hnc hbg hbase
  go_enter Try.func78, Try.ntmps78
  go_wp2_with (first | ((with_reducible refine gate_builtin (b := .append) (xs := #[.tmp 34, .tmp 39]) rfl ?_); refine Lib.wpList_append_run _ rfl _ _ _ _ rfl _ _ rfl rfl _ _ (hrz.out _) ?_) | ((with_reducible refine gate_builtin (b := .copy) (xs := #[.tmp 43, .tmp 44]) rfl ?_); refine wpList_copy_runI _ rfl _ _ 27 27 rfl _ _ rfl rfl (hcpA.out _) ?_))
  have hw1 : IntKind.i64.wrap ((i : Int) + 1) = (i : Int) + 1 := by rw [IntKind.wrap_i64]; omega
  have p9 : (i : Int) + 1 ≤ (n : Int) + 1 := by omega
  go_region_law (refine step_copy_runI rfl _ _ 27 27 rfl _ _ (by simp [Act.eval, Act.put]) (by simp [Act.eval, Act.put]) (hcpB.out _) ?_)
  go_wp2
  go_ret
  exact ⟨_, rfl, FIN.out⟩

end Go.Proofs.Ytklikbjlfaednaa.P

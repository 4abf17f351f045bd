/- The program's byDep: a contract by hand. -/
import Derived.Test.YtoalolbifakpiaaS10
namespace Go.Proofs.Ytoalolbifakpiaa.P
open Go.Proofs Go.Shelf Go.RowKit Go.Lib Go.Sort Go.Proofs.YtoalolbifakpiaaW.PrintWords Go.Proofs.YtoalolbifakpiaaW.PrintLast Go.Proofs.YtoalolbifakpiaaW.PrintMore
set_option linter.unusedVariables false
set_option linter.unusedSimpArgs false

/-- The places so far: the first ones are their own numbers. -/
def bd_pl (n i : Nat) (xs : List Int) : Prop := xs.length = n ∧ ∀ j, j < i → xs.getD j 0 = (j : Int)
theorem bd_start (n : Nat) : bd_pl n 0 (List.replicate n 0) := ⟨by simp, fun j h => absurd h (by omega)⟩
theorem bd_step (n i : Nat) (xs : List Int) (h : bd_pl n i xs) (hi : i < n) : bd_pl n (i + 1) (xs.set i (i : Int)) := by
  refine ⟨by rw [List.length_set]; exact h.1, fun j hj => ?_⟩
  rw [List.getD_eq_getElem?_getD, List.getElem?_set]
  by_cases e : i = j
  · rw [if_pos e, if_pos (by rw [h.1]; omega), e]; rfl
  · rw [if_neg e, ← List.getD_eq_getElem?_getD]; exact h.2 j (by omega)
theorem bd_end (n : Nat) (xs : List Int) (h : bd_pl n n xs) : xs = (List.range n).map (fun (i : Nat) => (i : Int)) := by
  apply List.ext_getElem
  · rw [h.1]; simp
  · intro i h1 h2
    have := h.2 i (by rw [← h.1]; exact h1)
    rw [List.getD_eq_getElem?_getD, List.getElem?_eq_getElem h1] at this
    rw [List.getElem_map, List.getElem_range]
    exact this

theorem bd_sort (l0 : List S25) (A0 : Option Addr) (c0 : Nat) (w W : World) (hr0 : Kd.C k25 w A0 l0.length l0) (hB : Go.RowKit.Below w.heap.size w W) (bx : Nat) (hbx : W.heap[bx]? = some (.cells #[.slice A0 l0.length c0] 31 (0, 0))) (h40 : l0.length ≤ 40)
    (v : Value) (xs : List Int) (hR : Kd.R (Kd.int .i64) 3 W w.heap.size (fun _ => True) v xs) (hx : bd_pl l0.length l0.length xs) :
    Calls Try.prog 70 #[v, .func (.func 71) #[] #[.pointer (some ⟨bx, 0, none⟩)]] W fun e w' => e = .returned (.tuple #[]) ∧ Kd.R (Kd.int .i64) 3 w' w.heap.size (fun _ => True) v (impl_byDep.l0 l0) ∧ Go.RowKit.Below w.heap.size w w' := by
  have hxe := bd_end _ _ hx
  by_cases hn : l0.length = 0
  · obtain ⟨A, c, rfl, h2, h3⟩ := Kd.R_reads hR
    have hxl : xs.length = 0 := by rw [hxe, hn]; rfl
    rw [hxl] at hR ⊢
    refine (hd_sort0 _ _ _ W).mono ?_
    rintro e w' ⟨rfl, rfl⟩
    refine ⟨rfl, ?_, hB⟩
    have e0 : impl_byDep.l0 l0 = [] := by unfold impl_byDep.l0; rw [hn]; simp
    rw [e0]
    have e1 : xs = [] := List.length_eq_zero_iff.1 hxl
    rw [e1] at hR
    exact hR
  · obtain ⟨K, hK⟩ : ∃ K, l0.length = K + 1 := ⟨l0.length - 1, by omega⟩
    have hxl : xs.length = K + 1 := by rw [hxe, hK]; simp
    obtain ⟨g, c, rfl, hgb, hgl, cells, hgc⟩ := Kd.R_form hR (by omega)
    rw [hxl] at hR ⊢
    have hgx : g ≠ bx := blk_ne hgc hbx (by decide)
    have hids := sy_ids_list K
    have hR1 : Kd.R (Kd.int .i64) 3 W w.heap.size (fun _ => True) (.slice (some ⟨g, 0, none⟩) (K + 1) c) ((Array.ofFn (fun i : Fin (K + 1) => i)).toList.map fun x => (x.val : Int)) := by rw [hids, ← hK, ← hxe, hK]; exact hR
    have hH := sy_holds (Array.ofFn (fun i : Fin (K + 1) => i)) (by simp) hR1
    have hrow : Row1 (sy_int (K := K)) W g 0 (Array.ofFn (fun i : Fin (K + 1) => i)) := ⟨fun _ => rfl, hH, hgl⟩
    have hcmp : CmpLays1 Try.prog 71 #[.pointer (some ⟨bx, 0, none⟩)] sy_int (fun x y : Fin (K + 1) => sy_cmp (rd_T25 l0 x.val).f2 (rd_T25 l0 y.val).f2) g 0 (K + 1) W := by
      intro m os dk hs x y
      refine hd_cmpDep bx A0 c0 l0 x.val y.val _ (sy_cell_other sy_int W g 0 m dk os _ _ (fun e => hgx e.symm) ?_) ?_ (by omega) (by omega)
      · rw [blk_cell hbx]; rfl
      · exact Kd.C_below hr0 (hB.trans (sy_below sy_int W g 0 m w.heap.size dk os hgb hgl))
    refine (hd_sortStable 71 #[.pointer (some ⟨bx, 0, none⟩)] _ g 0 c (K + 1) _ _ W W (fun _ _ => rfl) hcmp hrow (by simp) (by omega) (by simp) (SW.start hH)).mono ?_
    rintro e w' ⟨rfl, hS⟩
    refine ⟨rfl, ?_, ?_⟩
    · have h5 := sy_back _ _ (by simp) ?_ hR1 hS
      · rw [sy_sorted K l0 hK (by omega)] at h5
        exact h5
      · have h6 := congrArg List.length (sy_sorted K l0 hK (by omega))
        rw [List.length_map, Array.length_toList] at h6
        rw [h6]
        unfold impl_byDep.l0
        rw [List.length_map, List.length_mergeSort, List.length_range, hK]
    · obtain ⟨m, os, rfl⟩ := hS
      exact hB.trans (sy_below sy_int W g 0 m w.heap.size _ os hgb hgl)

set_option maxHeartbeats 8000000 in
set_option maxRecDepth 100000 in
theorem hd_byDep (k : Nat) (A0 : Option Addr) (c0 : Nat) (l0 : List S25) (r : List Int) (w : World) (hr0 : Kd.C k25 w A0 l0.length l0) (hc0 : l0.length ≤ c0) (h : impl_byDep.f k l0 = some r) :
    Calls Try.prog 60 #[.slice A0 l0.length c0] w fun e w' => ∃ v0_ : Value, e = .returned v0_ ∧ Kd.R (Kd.int .i64) 3 w' w.heap.size (fun _ => True) v0_ r ∧ Go.RowKit.Below w.heap.size w w' := by
  have hu39 := Try.underlying39; have hu31 := Try.underlying31; have mixed : Try.prog.follows Departure.mixedOrders = true := by kernel_rfl
  have h40 : l0.length ≤ 40 := by
    unfold impl_byDep.f at h
    split at h
    · assumption
    · simp at h
  have hr : r = impl_byDep.l0 l0 := by
    unfold impl_byDep.f at h
    rw [if_pos h40] at h
    exact (Option.some.inj h).symm
  have HR := Aside0.mk hr
  clear h hr
  have HR0 := Aside0.mk hr0
  clear hr0
  obtain ⟨n, hn⟩ : ∃ n, n = l0.length := ⟨_, rfl⟩
  have HB := Aside0.mk (below_alloc (Go.RowKit.Below.refl w.heap.size w) (Obj.cells #[Value.slice A0 l0.length c0] 31))
  have hbx := blk_new w (Obj.cells #[Value.slice A0 l0.length c0] 31)
  have HX := Aside0.mk hbx
  clear hbx
  go_enter Try.func60, Try.ntmps60
  generalize hW : w.alloc (Obj.cells #[Value.slice A0 l0.length c0] 31) = W at HB HX
  have hbc : W.cell? ⟨w.heap.size, 0, none⟩ = some (.slice A0 l0.length c0) := by rw [blk_cell HX.out]; rfl
  go_wp2_with (first | ((with_reducible refine gate_dst (N := 7) rfl ?_); refine Kd.R_make (Kd.int .i64) _ 3 rfl (N := 7) rfl 39 _ _ rfl (l0.length : Int) rfl rfl Try.underlying39 (.int .i64 0) 8 info3 rfl (by decide) (by omega) 0 (ok := fun _ => True) (okp := fun _ => True) rfl (fun _ hk => hk) trivial (by omega) (by simp only [Int.toNat_natCast]; omega) (Below.refl _ _) (Nat.le_refl _) ?_; intro v548 w4 ho5 hb hg_ hnew_; (obtain ⟨Ao, co, eo⟩ := Kd.R_slice ho5); rw [List.length_replicate, Int.toNat_natCast] at eo; subst eo))
  have h1 := blk_below HX.out hb
  have h2 := below_step HB.out hb
  have h3 : Kd.R (Kd.int .i64) 3 w4 w.heap.size (fun _ => True) (.slice Ao l0.length co) (List.replicate l0.length 0) := by
    have := Kd.R_lower ho5 (below_size HB.out)
    rw [Int.toNat_natCast] at this
    exact this
  clear hg_ hnew_ HX hb HB ho5 hbc hW
  have HX := Aside0.mk h1; have HB := Aside0.mk h2; have HO := Aside0.mk h3
  clear h1 h2 h3 W
  have HP := Aside0.mk (bd_start l0.length)
  go_loopg [10] (l0.length + 1) (fun kq v10 w' => ∃ (i : Nat) (xs : List Int), v10 = .int .i64 (i : Int) ∧ i ≤ l0.length ∧ l0.length + 1 ≤ i + kq ∧ Aside0 (bd_pl l0.length i xs) ∧ Aside0 (Kd.R (Kd.int .i64) 3 w' w.heap.size (fun _ => True) (.slice Ao l0.length co) xs) ∧ Aside0 (Go.RowKit.Below w.heap.size w w') ∧ Aside0 (w'.heap[w.heap.size]? = some (.cells #[.slice A0 l0.length c0] 31 (0, 0))))
  case atStart => exact ⟨0, _, rfl, by omega, by omega, HP, HO, HB, HX⟩
  case round =>
    clear HP HO HB HX
    obtain ⟨i, xs, rfl, hi, hg, HP, HO, HB, HX⟩ := hrel
    have hxl := HP.out.1
    by_cases c : i < l0.length
    · have cz : (i : Int) < (l0.length : Int) := by omega
      have p9 : (0 : Int) ≤ (i : Int) := by omega
      have q9 : (i : Int) < (xs.length : Int) := by omega
      obtain ⟨go9, co9, eo9, gb9, gl9, cl9, HG9⟩ := Kd.R_form HO.out (by omega)
      rw [hxl] at eo9
      cases eo9
      have HO' : Aside0 (Kd.R (Kd.int .i64) 3 wr w.heap.size (fun _ => True) (.slice (some ⟨go9, 0, none⟩) xs.length co) xs) := ⟨by rw [hxl]; exact HO.out⟩
      obtain ⟨hx9_0, hf9_0⟩ := Kd.R_celln 0 HO'.out (i : Int) p9 q9
      have HP10 := Kd.R_putg HO'.out (i : Int) (i : Int)
      rw [Int.toNat_natCast] at HP10 hx9_0 hf9_0
      have hne : w.heap.size ≠ go9 := fun e => absurd HX.out (by rw [e, HG9]; simp)
      have HN := Aside0.mk hne
      have GB := Aside0.mk gb9
      clear hne gb9 gl9 HG9
      go_wp2
      go_roundg (gk - 1)
      case measure => omega
      case rel => exact ⟨i + 1, xs.set i (i : Int), by go_num, by omega, by omega, ⟨bd_step _ _ _ HP.out c⟩, ⟨by have := HP10.1; rw [hxl] at this; exact this⟩, ⟨below_set HB.out GB.out⟩, ⟨blk_far HX.out HN.out _⟩⟩
    · have cz : ¬ (i : Int) < (l0.length : Int) := by omega
      have hil : i = l0.length := by omega
      subst hil
      go_wp2_with (go_at_call 70; refine (bd_sort l0 A0 c0 w wr HR0.out HB.out _ HX.out h40 _ xs HO.out HP.out).mono ?_; rintro e_ w2 ⟨rfl, S1, S2⟩)
      go_ret
      refine ⟨_, rfl, ?_, S2⟩
      rw [HR.out]
      exact S1
end Go.Proofs.Ytoalolbifakpiaa.P

/- Contracts of the functions of the program, each one with its plain Lean function; written by a program of the session out of the translation. -/
import Derived.Test.YtklikbjlfaednaaPU
import Derived.Test.YtklikbjlfaednaaPx0
import Derived.Test.YtklikbjlfaednaaPx3
import Derived.Test.YtklikbjlfaednaaPx4
import Derived.Test.YtklikbjlfaednaaPx9
import Derived.Test.YtklikbjlfaednaaPx10
import Derived.Test.YtklikbjlfaednaaPx11
import Derived.Test.YtklikbjlfaednaaPx35
namespace Go.Proofs.Ytklikbjlfaednaa.P
open Go.RowKit Go.Proofs.YtklikbjlfaednaaW.PrintWords Go.Proofs.YtklikbjlfaednaaW.PrintLast Go.Proofs.YtklikbjlfaednaaW.PrintMore
attribute [local go_sem] max2_int min2_int max_two min_two max_three min_three max_four min_four   -- for this text's walks alone
set_option linter.unusedVariables false
set_option linter.unusedSimpArgs false

/-! ### impl_PlaySales: function 37, by hand -/

theorem hd_sale_ok {a b : Int} {l : List S66} (h : impl_TrainOk.l0 a b l = true) (s : S56) : impl_TrainOk.l0 a b (impl_PlaySales.l0 a b l s).1 = true := by
  rw [Pure.trains_same] at h
  rw [Pure.trains_same]
  have ht := (Pure.train_iff a b l).1 h
  unfold impl_PlaySales.l0
  split
  · rw [Pure.sell_same h]
    exact (Pure.train_iff a b _).2 (Pure.book_train ht _ _ _)
  · split
    · rw [(Pure.rm_del s.f1 l (ht.order.imp fun q => q.1)).1]
      exact (Pure.train_iff a b _).2 (ht.del s.f1)
    · exact h
theorem hd_made1 (m : Nat) : madeCells #[Value.int .i64 0] m = ((List.replicate m (0 : Int)).map (Value.int .i64)).toArray := by
  apply Array.ext
  · simp [size_madeCells]
  · intro i h1 h2
    have hi : i < m := by simpa [size_madeCells] using h1
    simp only [madeCells, Array.getElem_map, Array.getElem_range, List.size_toArray, List.length_cons, List.length_nil, Nat.zero_add, Nat.mod_one, List.getElem_toArray, List.map_replicate, List.getElem_replicate]
    rfl
theorem hd_i3 : (Try.prog.info? 3).map (fun i => (i.zero, i.size, i.bytes)) = some (some (Value.int .i64 0), 1, 8) := by kernel_rfl
theorem hd_make33 (n : Nat) (hn : n ≤ 200) (W : World) : (Instr.makeSlice 33 (.int .i64 (n : Int)) (.int .i64 (n : Int))).run Try.prog W = .ok (.slice (some ⟨W.heap.size, 0, none⟩) n n) (W.alloc (.cells ((List.replicate n (0 : Int)).map (Value.int .i64)).toArray 3 (0, 0))) := by
  obtain ⟨i, hi, h3⟩ := Option.map_eq_some_iff.1 hd_i3
  obtain ⟨hz, hs, hb⟩ : i.zero = some (Value.int .i64 0) ∧ i.size = 1 ∧ i.bytes = 8 := by
    simp only [Prod.mk.injEq] at h3
    exact h3
  have := run_makeSlice W 33 3 i _ Try.underlying33 hi hz .i64 .i64 (n : Int) (n : Int) (by omega) (Int.le_refl _) (by rw [hs]; omega) (by rw [hb]; omega) (by omega)
  rw [this, hs, Int.toNat_natCast, Nat.mul_one, show (Value.int .i64 0).cells = #[Value.int .i64 0] from rfl, hd_made1]
theorem hd_sale_step {a b : Int} {ss : List S56} {l m : List S66} {s : S56} {kk : Nat} {tl : List Int} (hk : kk < tl.length) (hd : ss.drop kk = s :: ss.drop (kk + 1)) (h : impl_PlaySales.l1 a b ss l = ((impl_PlaySales.l1 a b (ss.drop kk) m).1, tl.take kk ++ (impl_PlaySales.l1 a b (ss.drop kk) m).2)) :
    impl_PlaySales.l1 a b ss l = ((impl_PlaySales.l1 a b (ss.drop (kk + 1)) (impl_PlaySales.l0 a b m s).1).1, (tl.set kk (impl_PlaySales.l0 a b m s).2).take (kk + 1) ++ (impl_PlaySales.l1 a b (ss.drop (kk + 1)) (impl_PlaySales.l0 a b m s).1).2) := by
  rw [h, hd, impl_PlaySales.l1, Pure.set_take tl kk _ hk, List.append_assoc]
  rfl
theorem hd_set_cells {w : World} {T kk : Nat} {tl : List Int} (h : w.heap[T]? = some (.cells (tl.map (Value.int .i64)).toArray 3 (0, 0))) (r : Int) : (w.setCell ⟨T, kk, none⟩ (.int .i64 r)).heap[T]? = some (.cells ((tl.set kk r).map (Value.int .i64)).toArray 3 (0, 0)) :=
  blk_put h kk _ (by simp [List.map_set])
theorem hd_cell_at {w : World} {T kk : Nat} {tl : List Int} (h : w.heap[T]? = some (.cells (tl.map (Value.int .i64)).toArray 3 (0, 0))) (hk : kk < tl.length) : w.cell? ⟨T, kk, none⟩ = some (.int .i64 tl[kk]) :=
  (blk_cell h kk).trans (by simp [hk])
theorem hd_row_far {w : World} {base T kk : Nat} {cs : Array Value} {v : Value} {l : List S66} (ho : Kd.R k66 66 w base (fun _ => True) v l) (h : w.heap[T]? = some (.cells cs 3 (0, 0))) (u : Value) : Kd.R k66 66 (w.setCell ⟨T, kk, none⟩ u) base (fun _ => True) v l := by
  have hne := Kd.R_ne ho h (by decide)
  exact hd_R66_mk (own_move (hd_R66 ho) (fun k hk => Below.heap_setCell _ _ _ k (fun e => hne (by rw [hk]; exact congrArg some e.symm))))
theorem hd_told {w : World} {base T : Nat} {tl : List Int} (h : w.heap[T]? = some (.cells (tl.map (Value.int .i64)).toArray 3 (0, 0))) (hb : base ≤ T) (hl : tl.length ≤ 200) : Kd.R (Kd.int .i64) 3 w base (fun _ => True) (.slice (some ⟨T, 0, none⟩) tl.length tl.length) tl := by
  refine ⟨fun _ _ => trivial, tl.map (Value.int .i64), ⟨by simp [Kd.int, Kd.scalar], .inr ⟨T, tl.length, _, rfl, hb, h, Nat.le_refl _, by unfold maxLen; omega, by simp [Kd.int, Kd.scalar], ?_⟩⟩, by simp [Kd.int, Kd.scalar], fun j p hj => ?_⟩
  · show List.take (tl.length * 1) _ = _
    rw [List.take_of_length_le (by simp)]
  · have hlt := (List.getElem?_eq_some_iff.1 hj)
    obtain ⟨h1, h2⟩ := hlt
    show List.take 1 (List.drop (j * 1) (tl.map (Value.int .i64))) = [.int .i64 p]
    rw [Nat.mul_one, List.drop_eq_getElem_cons (by simpa using h1)]
    simp [h2]
set_option maxHeartbeats 8000000 in
set_option maxRecDepth 100000 in
theorem impl_PlaySales.calls (a0_0 : Int) (a0_1 : Int) (A0_2 : Option Addr) (c0_2 : Nat) (l0_2 : List (S66)) (A1 : Option Addr) (c1 : Nat) (l1 : List (S56)) (r1 : Int) (r2 : Int) (r3 : List (S66)) (r4 : List Int) (w : World) (hr0_2 : Kd.C k66 w A0_2 l0_2.length l0_2) (hc0_2 : l0_2.length ≤ c0_2) (hr1 : Kd.C k56 w A1 l1.length l1) (hc1 : l1.length ≤ c1) (h : impl_PlaySales.f a0_0 a0_1 l0_2 l1 = some (r1, r2, r3, r4)) :
    Calls Try.prog 37 #[.agg #[.int .i64 a0_0, .int .i64 a0_1, .slice A0_2 l0_2.length c0_2], .slice A1 l1.length c1] w fun e w' => ∃ v2_ v3_ : Value, e = .returned (.tuple #[.agg #[.int .i64 r1, .int .i64 r2, v2_], v3_]) ∧ Kd.R k66 66 w' w.heap.size (fun _ => True) v2_ r3 ∧ Kd.R (Kd.int .i64) 3 w' w.heap.size (fun _ => True) v3_ r4 ∧ Below w.heap.size w w' := by
  have hu29 := Try.underlying29
  have HR := Aside0.mk hr0_2
  have HC := Aside0.mk hc0_2
  have HRS := Aside0.mk hr1
  have HCS := Aside0.mk hc1
  have hu56 := Try.underlying56
  clear hr0_2 hc0_2 hr1 hc1
  have HB := Aside0.mk (Below.refl w.heap.size w)
  by_cases hl : l0_2.length < 4398046511104
  rotate_left
  · unfold impl_PlaySales.f at h; rw [if_neg hl] at h; cases h
  unfold impl_PlaySales.f at h
  rw [if_pos hl] at h
  have HCL := Aside0.mk (hd_clone a0_0 a0_1 l0_2 hl)
  clear hl
  obtain ⟨bo, hbo⟩ : ∃ b, impl_TrainOk.l0 a0_0 a0_1 l0_2 = b := ⟨_, rfl⟩
  rw [hbo] at h
  have HOK := Aside0.mk (show impl_TrainOk.f a0_0 a0_1 l0_2 = some bo by unfold impl_TrainOk.f; rw [hbo])
  have HSH := Aside0.mk hbo
  clear hbo
  have HE := Aside0.mk (Option.some.inj h)
  clear h
  go_enter Try.func37, Try.ntmps37
  go_upto_region 1 with (first | ((with_reducible refine gate_dst (N := 2) rfl ?_); refine box_event ?hg (N := 2) ?hd (cs := #[.int .i64 a0_0, .int .i64 a0_1, .slice A0_2 l0_2.length c0_2]) (t := 29) ?hr ?_; (case hd => rfl); (case hg => rfl); (case hr => first | (go_simp; done) | (go_simp; rfl)); intro gt hg w3 hbox hb; have GT := Aside0.mk (show w.heap.size ≤ gt by rw [hg]; exact Nat.le_refl _); have BT := Aside0.mk hbox; have n1_ := Aside0.mk (below_step HB.out hb); clear HB; have HB := n1_; clear n1_ hb hbox hg) | ((with_reducible refine gate_dst (N := 4) rfl ?_); refine box_event ?hg (N := 4) ?hd (cs := #[.int .i64 0, .int .i64 0, .slice none 0 0]) (t := 29) ?hr ?_; (case hd => rfl); (case hg => rfl); (case hr => first | (go_simp; done) | (go_simp; rfl)); intro gr hg w4 hbox hb; have GR := Aside0.mk (show w.heap.size ≤ gr by rw [hg]; exact HB.out.size); have NTR := Aside0.mk (show gt ≠ gr by rw [hg]; exact Nat.ne_of_lt (blk_lt BT.out)); have BR := Aside0.mk hbox; have n0_ := Aside0.mk (blk_below BT.out hb); have n1_ := Aside0.mk (below_step HB.out hb); clear HB BT; have HB := n1_; have BT := n0_; clear n0_ n1_ hb hbox hg))
  have hct0 : w4.cell? ⟨gt, 0, none⟩ = some (.int .i64 a0_0) := (blk_cell BT.out 0).trans rfl
  have hct1 : w4.cell? ⟨gt, 1, none⟩ = some (.int .i64 a0_1) := (blk_cell BT.out 1).trans rfl
  have hct2 : w4.cell? ⟨gt, 2, none⟩ = some (.slice A0_2 l0_2.length c0_2) := (blk_cell BT.out 2).trans rfl
  go_upto_region 2 with (first | (go_at_call 60; (with_reducible refine (impl_cloneTrain.calls a0_0 a0_1 A0_2 c0_2 l0_2 a0_0 a0_1 l0_2 _ (Kd.C_below HR.out HB.out) HC.out HCL.out).mono ?_); rintro e w5 ⟨v, rfl, hv, hb⟩; obtain ⟨Av, cv, ev⟩ := Kd.R_slice hv; subst ev; have n0_ := Aside0.mk (blk_below BT.out hb); have n1_ := Aside0.mk (blk_below BR.out hb); have n2_ := Aside0.mk (below_step HB.out hb); have RV := Aside0.mk (Kd.R_lower hv HB.out.size); clear hct0 hct1 hct2 BT BR HB hv hb; have BT := n0_; have BR := n1_; have HB := n2_; clear n0_ n1_ n2_) | ((with_reducible refine gate_dst (N := 6) rfl ?_); refine box_event ?hg (N := 6) ?hd (cs := #[.int .i64 0, .int .i64 0, .slice none 0 0]) (t := 29) ?hr ?_; (case hd => rfl); (case hg => rfl); (case hr => first | (go_simp; done) | (go_simp; rfl)); intro gO hg w6 hbox hb; have GO := Aside0.mk (show w.heap.size ≤ gO by rw [hg]; exact HB.out.size); have NTO := Aside0.mk (show gt ≠ gO by rw [hg]; exact Nat.ne_of_lt (blk_lt BT.out)); have NRO := Aside0.mk (show gr ≠ gO by rw [hg]; exact Nat.ne_of_lt (blk_lt BR.out)); have BO := Aside0.mk hbox; have n0_ := Aside0.mk (blk_below BT.out hb); have n1_ := Aside0.mk (blk_below BR.out hb); have n2_ := Aside0.mk (below_step HB.out hb); have n3_ := Aside0.mk (Kd.R_below RV.out hb); clear HB BT BR RV; have HB := n2_; have BT := n0_; have BR := n1_; have RV := n3_; clear n0_ n1_ n2_ n3_ hb hbox hg; have hco0 : w6.cell? ⟨gO, 0, none⟩ = some (.int .i64 0) := (blk_cell BO.out 0).trans rfl; have hco1 : w6.cell? ⟨gO, 1, none⟩ = some (.int .i64 0) := (blk_cell BO.out 1).trans rfl; have hco2 : w6.cell? ⟨gO, 2, none⟩ = some (.slice none 0 0) := (blk_cell BO.out 2).trans rfl; have hfo0 := blk_frozen BO.out 0; have hfo1 := blk_frozen BO.out 1; have hfo2 := blk_frozen BO.out 2))
  have n0_ := Aside0.mk (hd_far3 BT.out NTO.out (.int .i64 a0_0) (.int .i64 a0_1) (.slice Av l0_2.length cv))
  have n1_ := Aside0.mk (hd_far3 BR.out NRO.out (.int .i64 a0_0) (.int .i64 a0_1) (.slice Av l0_2.length cv))
  have n2_ := Aside0.mk (hd_put3 BO.out (.int .i64 a0_0) (.int .i64 a0_1) (.slice Av l0_2.length cv))
  have n3_ := Aside0.mk (hd_row3 RV.out BO.out (.int .i64 a0_0) (.int .i64 a0_1) (.slice Av l0_2.length cv))
  have n4_ := Aside0.mk (hd_below3 HB.out GO.out (.int .i64 a0_0) (.int .i64 a0_1) (.slice Av l0_2.length cv))
  clear hco0 hco1 hco2 hfo0 hfo1 hfo2 BT BR BO RV HB
  generalize ((w6.setCell ⟨gO, 0, none⟩ (.int .i64 a0_0)).setCell ⟨gO, 1, none⟩ (.int .i64 a0_1)).setCell ⟨gO, 2, none⟩ (.slice Av l0_2.length cv) = w7 at n0_ n1_ n2_ n3_ n4_ ⊢
  have BT := n0_
  have BR := n1_
  have BO := n2_
  have RV := n3_
  have HB := n4_
  clear n0_ n1_ n2_ n3_ n4_
  have hct0 : w7.cell? ⟨gt, 0, none⟩ = some (.int .i64 a0_0) := (blk_cell BT.out 0).trans rfl
  have hct1 : w7.cell? ⟨gt, 1, none⟩ = some (.int .i64 a0_1) := (blk_cell BT.out 1).trans rfl
  have hct2 : w7.cell? ⟨gt, 2, none⟩ = some (.slice A0_2 l0_2.length c0_2) := (blk_cell BT.out 2).trans rfl
  cases bo with
  | false =>
    go_wp2_with (go_at_call 15; (with_reducible refine (impl_TrainOk.calls a0_0 a0_1 A0_2 c0_2 l0_2 false _ (Kd.C_below HR.out HB.out) HC.out HOK.out).mono ?_); rintro e w8 ⟨rfl, hb⟩; have n0_ := Aside0.mk (blk_below BT.out hb); have n1_ := Aside0.mk (blk_below BR.out hb); have n2_ := Aside0.mk (below_step HB.out hb); have n3_ := Aside0.mk (Kd.R_below RV.out hb); have n4_ := Aside0.mk (blk_below BO.out hb); clear hct0 hct1 hct2 BT BR BO RV HB hb; have BT := n0_; have BR := n1_; have HB := n2_; have RV := n3_; have BO := n4_; clear n0_ n1_ n2_ n3_ n4_; have hco0 : w8.cell? ⟨gO, 0, none⟩ = some (.int .i64 a0_0) := (blk_cell BO.out 0).trans rfl; have hco1 : w8.cell? ⟨gO, 1, none⟩ = some (.int .i64 a0_1) := (blk_cell BO.out 1).trans rfl; have hco2 : w8.cell? ⟨gO, 2, none⟩ = some (.slice Av l0_2.length cv) := (blk_cell BO.out 2).trans rfl; have hcr0 : w8.cell? ⟨gr, 0, none⟩ = some (.int .i64 0) := (blk_cell BR.out 0).trans rfl; have hcr1 : w8.cell? ⟨gr, 1, none⟩ = some (.int .i64 0) := (blk_cell BR.out 1).trans rfl; have hcr2 : w8.cell? ⟨gr, 2, none⟩ = some (.slice none 0 0) := (blk_cell BR.out 2).trans rfl; have hfr0 := blk_frozen BR.out 0; have hfr1 := blk_frozen BR.out 1; have hfr2 := blk_frozen BR.out 2)
    refine bodyPost_ret (results_ct rfl _ _ gr 29 #[.int .i64 a0_0, .int .i64 a0_1, (.slice Av l0_2.length cv)] (0, 0) _ rfl (hd_put3 BR.out _ _ _) Try.underlying29 rfl (by kernel_rfl)) rfl ?_
    have E := HE.out
    simp only [Bool.false_eq_true, false_and, if_false, Prod.mk.injEq] at E
    obtain ⟨rfl, rfl, rfl, rfl⟩ := E
    exact ⟨_, _, rfl, hd_row3 RV.out BR.out _ _ _, Kd.R_nil _ _ _ _ _, hd_below3 HB.out GR.out _ _ _⟩
  | true =>
    by_cases hn : l1.length ≤ 200
    rotate_left
    · have hn2 : decide (200 < (l1.length : Int)) = true := decide_eq_true (by omega)
      have hn3 : decide (200 < l1.length) = true := decide_eq_true (by omega)
      go_wp2_with (go_at_call 15; (with_reducible refine (impl_TrainOk.calls a0_0 a0_1 A0_2 c0_2 l0_2 true _ (Kd.C_below HR.out HB.out) HC.out HOK.out).mono ?_); rintro e w8 ⟨rfl, hb⟩; have n0_ := Aside0.mk (blk_below BT.out hb); have n1_ := Aside0.mk (blk_below BR.out hb); have n2_ := Aside0.mk (below_step HB.out hb); have n3_ := Aside0.mk (Kd.R_below RV.out hb); have n4_ := Aside0.mk (blk_below BO.out hb); clear hct0 hct1 hct2 BT BR BO RV HB hb; have BT := n0_; have BR := n1_; have HB := n2_; have RV := n3_; have BO := n4_; clear n0_ n1_ n2_ n3_ n4_; have hco0 : w8.cell? ⟨gO, 0, none⟩ = some (.int .i64 a0_0) := (blk_cell BO.out 0).trans rfl; have hco1 : w8.cell? ⟨gO, 1, none⟩ = some (.int .i64 a0_1) := (blk_cell BO.out 1).trans rfl; have hco2 : w8.cell? ⟨gO, 2, none⟩ = some (.slice Av l0_2.length cv) := (blk_cell BO.out 2).trans rfl; have hcr0 : w8.cell? ⟨gr, 0, none⟩ = some (.int .i64 0) := (blk_cell BR.out 0).trans rfl; have hcr1 : w8.cell? ⟨gr, 1, none⟩ = some (.int .i64 0) := (blk_cell BR.out 1).trans rfl; have hcr2 : w8.cell? ⟨gr, 2, none⟩ = some (.slice none 0 0) := (blk_cell BR.out 2).trans rfl; have hfr0 := blk_frozen BR.out 0; have hfr1 := blk_frozen BR.out 1; have hfr2 := blk_frozen BR.out 2)
      refine bodyPost_ret (results_ct rfl _ _ gr 29 #[.int .i64 a0_0, .int .i64 a0_1, (.slice Av l0_2.length cv)] (0, 0) _ rfl (hd_put3 BR.out _ _ _) Try.underlying29 rfl (by kernel_rfl)) rfl ?_
      have E := HE.out
      rw [if_neg (fun q => hn q.2)] at E
      simp only [Prod.mk.injEq] at E
      obtain ⟨rfl, rfl, rfl, rfl⟩ := E
      exact ⟨_, _, rfl, hd_row3 RV.out BR.out _ _ _, Kd.R_nil _ _ _ _ _, hd_below3 HB.out GR.out _ _ _⟩
    · have HN := Aside0.mk hn
      have hn2 : decide (200 < (l1.length : Int)) = false := decide_eq_false (by omega)
      have hn3 : decide (200 < l1.length) = false := decide_eq_false (by omega)
      go_upto_region 4 with (go_at_call 15; (with_reducible refine (impl_TrainOk.calls a0_0 a0_1 A0_2 c0_2 l0_2 true _ (Kd.C_below HR.out HB.out) HC.out HOK.out).mono ?_); rintro e w8 ⟨rfl, hb⟩; have n0_ := Aside0.mk (blk_below BT.out hb); have n1_ := Aside0.mk (blk_below BR.out hb); have n2_ := Aside0.mk (below_step HB.out hb); have n3_ := Aside0.mk (Kd.R_below RV.out hb); have n4_ := Aside0.mk (blk_below BO.out hb); clear hct0 hct1 hct2 BT BR BO RV HB hb; have BT := n0_; have BR := n1_; have HB := n2_; have RV := n3_; have BO := n4_; clear n0_ n1_ n2_ n3_ n4_)
      clear hn2 hn3
      obtain ⟨Z, hZ⟩ : ∃ Z, Z = ((List.replicate l1.length (0 : Int)).map (Value.int .i64)).toArray := ⟨_, rfl⟩
      have hmk : ∀ W : World, (Instr.makeSlice 33 (.int .i64 (l1.length : Int)) (.int .i64 (l1.length : Int))).run Try.prog W = .ok (.slice (some ⟨W.heap.size, 0, none⟩) l1.length l1.length) (W.alloc (.cells Z 3 (0, 0))) := by rw [hZ]; exact hd_make33 l1.length HN.out
      have HZ := Aside0.mk hZ
      clear hZ
      go_upto_region 5 with (fail)
      have n0_ := Aside0.mk (blk_alloc BR.out (Obj.cells Z 3 (0, 0)))
      have n1_ := Aside0.mk (below_alloc HB.out (Obj.cells Z 3 (0, 0)))
      have n2_ := Aside0.mk (Kd.R_alloc RV.out (Obj.cells Z 3 (0, 0)))
      have n3_ := Aside0.mk (blk_alloc BO.out (Obj.cells Z 3 (0, 0)))
      have n4_ := Aside0.mk (blk_new w8 (Obj.cells Z 3 (0, 0)))
      have n5_ := Aside0.mk (Nat.ne_of_lt (blk_lt BO.out))
      have n6_ := Aside0.mk (Nat.ne_of_lt (blk_lt BR.out))
      have n7_ := Aside0.mk HB.out.size
      clear BT BR HB RV BO hmk
      generalize w8.alloc (Obj.cells Z 3 (0, 0)) = w9 at n0_ n1_ n2_ n3_ n4_ ⊢
      generalize w8.heap.size = T at n4_ n5_ n6_ n7_ ⊢
      have BR := n0_
      have HB := n1_
      have RV := n2_
      have BO := n3_
      have BT := n4_
      have NOT := n5_
      have NRT := n6_
      have GT2 := n7_
      clear n0_ n1_ n2_ n3_ n4_ n5_ n6_ n7_
      rw [HZ.out] at BT
      clear HZ
      have hn200 : l1.length ≤ 200 := HN.out
      go_wp2
      go_loopg [8, 9, 26] l1.length (fun gg _ _ s26 wr => ∃ (kk : Nat) (m : List S66) (Am : Option Addr) (cm : Nat) (tl : List Int), kk ≤ l1.length ∧ l1.length - kk ≤ gg ∧ s26 = .int .i64 kk ∧ Aside0 (tl.length = l1.length) ∧ Aside0 (impl_TrainOk.l0 a0_0 a0_1 m = true) ∧ Aside0 (impl_PlaySales.l1 a0_0 a0_1 l1 l0_2 = ((impl_PlaySales.l1 a0_0 a0_1 (l1.drop kk) m).1, tl.take kk ++ (impl_PlaySales.l1 a0_0 a0_1 (l1.drop kk) m).2)) ∧ Aside0 (Kd.R k66 66 wr w.heap.size (fun _ => True) (.slice Am m.length cm) m) ∧ Aside0 (wr.heap[gO]? = some (.cells #[.int .i64 a0_0, .int .i64 a0_1, .slice Am m.length cm] 29 (0, 0))) ∧ Aside0 (wr.heap[T]? = some (.cells (tl.map (Value.int .i64)).toArray 3 (0, 0))) ∧ Aside0 (wr.heap[gr]? = some (.cells #[.int .i64 0, .int .i64 0, .slice none 0 0] 29 (0, 0))) ∧ Aside0 (Below w.heap.size w wr))
      case atStart => exact ⟨0, l0_2, Av, cv, List.replicate l1.length 0, Nat.zero_le _, by omega, rfl, ⟨List.length_replicate⟩, HSH, ⟨by simp⟩, RV, BO, BT, BR, HB⟩
      case round =>
        clear RV BO BT BR HB
        obtain ⟨kk, m, Am, cm, tl, hkk, hg, rfl, TL, OKm, EQ, RV, BO, BT, BR, HB⟩ := hrel
        by_cases hlt : kk < l1.length
        · have hltz : (kk : Int) < (l1.length : Int) := by omega
          have hnn : (0 : Int) ≤ (kk : Int) := Int.natCast_nonneg kk
          obtain ⟨ad, e, hx0, hx1, hx2, hx3⟩ := at_T56 HRS.out kk hnn hltz
          cases e
          rw [Int.toNat_natCast] at hx0 hx1 hx2 hx3
          replace hx0 := (HB.out.cell (World.block_lt_of_cell? w _ hx0)).trans hx0
          replace hx1 := (HB.out.cell (World.block_lt_of_cell? w _ hx1)).trans hx1
          replace hx2 := (HB.out.cell (World.block_lt_of_cell? w _ hx2)).trans hx2
          replace hx3 := (HB.out.cell (World.block_lt_of_cell? w _ hx3)).trans hx3
          have hdr : l1.drop kk = rd_T56 l1 (kk : Int) :: l1.drop (kk + 1) := by
            rw [List.drop_eq_getElem_cons hlt]
            simp [rd_T56, List.getD_eq_getElem?_getD, hlt]
          obtain ⟨s, hs⟩ : ∃ s, rd_T56 l1 (kk : Int) = s := ⟨_, rfl⟩
          rw [hs] at hx0 hx1 hx2 hx3 hdr
          have DR := Aside0.mk hdr
          clear hs hdr
          go_upto_region 8 with (fail)
          have n0_ := Aside0.mk (blk_alloc BT.out (Obj.cells #[.int .i64 s.f0, .int .i64 s.f1, .int .i64 s.f2, .int .i64 s.f3] 56 (0, 0)))
          have n1_ := Aside0.mk (blk_alloc BO.out (Obj.cells #[.int .i64 s.f0, .int .i64 s.f1, .int .i64 s.f2, .int .i64 s.f3] 56 (0, 0)))
          have n2_ := Aside0.mk (blk_alloc BR.out (Obj.cells #[.int .i64 s.f0, .int .i64 s.f1, .int .i64 s.f2, .int .i64 s.f3] 56 (0, 0)))
          have n3_ := Aside0.mk (Kd.R_alloc RV.out (Obj.cells #[.int .i64 s.f0, .int .i64 s.f1, .int .i64 s.f2, .int .i64 s.f3] 56 (0, 0)))
          have n4_ := Aside0.mk (below_alloc HB.out (Obj.cells #[.int .i64 s.f0, .int .i64 s.f1, .int .i64 s.f2, .int .i64 s.f3] 56 (0, 0)))
          have n5_ := Aside0.mk (blk_new wr (Obj.cells #[.int .i64 s.f0, .int .i64 s.f1, .int .i64 s.f2, .int .i64 s.f3] 56 (0, 0)))
          have n6_ := Aside0.mk (Nat.ne_of_gt (blk_lt BT.out))
          clear BT BO BR RV HB hx0 hx1 hx2 hx3
          generalize wr.alloc (Obj.cells #[.int .i64 s.f0, .int .i64 s.f1, .int .i64 s.f2, .int .i64 s.f3] 56 (0, 0)) = w10 at n0_ n1_ n2_ n3_ n4_ n5_ ⊢
          generalize wr.heap.size = gs at n5_ n6_ ⊢
          have hkl : kk < tl.length := by rw [TL.out]; exact hlt
          have hT := hd_cell_at n0_.out hkl
          have hfT := blk_frozen n0_.out kk
          go_upto_region 9 with (fail)
          have BT := Aside0.mk (hd_set_cells (kk := kk) n0_.out (-1))
          have BO := Aside0.mk ((Below.heap_setCell w10 ⟨T, kk, none⟩ (.int .i64 (-1)) gO NOT.out).trans n1_.out)
          have BR := Aside0.mk ((Below.heap_setCell w10 ⟨T, kk, none⟩ (.int .i64 (-1)) gr NRT.out).trans n2_.out)
          have RV := Aside0.mk (hd_row_far (kk := kk) n3_.out n0_.out (.int .i64 (-1)))
          have HB := Aside0.mk (below_set (j := kk) (v := .int .i64 (-1)) n4_.out GT2.out)
          have BS := Aside0.mk ((Below.heap_setCell w10 ⟨T, kk, none⟩ (.int .i64 (-1)) gs n6_.out).trans n5_.out)
          clear n0_ n1_ n2_ n3_ n4_ n5_ n6_ hT hfT
          generalize w10.setCell ⟨T, kk, none⟩ (.int .i64 (-1)) = w11 at BT BO BR RV HB BS ⊢
          have hs0 : w11.cell? ⟨gs, 0, none⟩ = some (.int .i64 s.f0) := (blk_cell BS.out 0).trans rfl
          have hs1 : w11.cell? ⟨gs, 1, none⟩ = some (.int .i64 s.f1) := (blk_cell BS.out 1).trans rfl
          have hs2 : w11.cell? ⟨gs, 2, none⟩ = some (.int .i64 s.f2) := (blk_cell BS.out 2).trans rfl
          have hs3 : w11.cell? ⟨gs, 3, none⟩ = some (.int .i64 s.f3) := (blk_cell BS.out 3).trans rfl
          have STEP := Aside0.mk (hd_sale_step hkl DR.out EQ.out)
          have OK2 := Aside0.mk (hd_sale_ok OKm.out s)
          have hkl2 : kk < (tl.set kk (-1)).length := by rw [List.length_set]; exact hkl
          by_cases c0 : s.f0 = 0
          · have SV := Aside0.mk (show impl_PlaySales.l0 a0_0 a0_1 m s = impl_Book.l6 a0_0 a0_1 m s.f1 s.f2 s.f3 by unfold impl_PlaySales.l0; rw [if_pos c0])
            have c0b : (s.f0 == 0) = true := by simpa using c0
            clear c0
            go_wp2_with (go_at_call 67; refine (hd_book w _ gO a0_0 a0_1 s.f1 s.f2 s.f3 Am cm m OKm.out BO.out RV.out HB.out GO.out).mono ?_; rintro e12 w12 hpost; obtain ⟨v12, rfl, hB12, hR12, hb12, hk12⟩ := hpost; rw [← SV.out] at hR12 ⊢; obtain ⟨A12, c12, ev12⟩ := Kd.R_slice hR12; subst ev12; have m0_ := Aside0.mk ((hk12 T (blk_lt BT.out) NOT.out.symm (Kd.R_ne RV.out BT.out (by decide))).trans BT.out); have m1_ := Aside0.mk ((hk12 gr (blk_lt BR.out) NRO.out (Kd.R_ne RV.out BR.out (by decide))).trans BR.out); have m2_ := Aside0.mk hB12; have m3_ := Aside0.mk hR12; have m4_ := Aside0.mk hb12; clear BT BO BR RV HB BS hs0 hs1 hs2 hs3 hB12 hR12 hb12 hk12; have hT := hd_cell_at m0_.out hkl2; have hfT := blk_frozen m0_.out kk)
            have BT := hd_set_cells (kk := kk) m0_.out (impl_PlaySales.l0 a0_0 a0_1 m s).2
            rw [List.set_set] at BT
            have BO := (Below.heap_setCell w12 ⟨T, kk, none⟩ (.int .i64 (impl_PlaySales.l0 a0_0 a0_1 m s).2) gO NOT.out).trans m2_.out
            have BR := (Below.heap_setCell w12 ⟨T, kk, none⟩ (.int .i64 (impl_PlaySales.l0 a0_0 a0_1 m s).2) gr NRT.out).trans m1_.out
            have RV := hd_row_far (kk := kk) m3_.out m0_.out (.int .i64 (impl_PlaySales.l0 a0_0 a0_1 m s).2)
            have HB := below_set (j := kk) (v := .int .i64 (impl_PlaySales.l0 a0_0 a0_1 m s).2) m4_.out GT2.out
            go_roundg (l1.length - (kk + 1))
            case measure => omega
            case rel => exact ⟨kk + 1, (impl_PlaySales.l0 a0_0 a0_1 m s).1, A12, c12, tl.set kk (impl_PlaySales.l0 a0_0 a0_1 m s).2, by omega, by omega, by go_num, ⟨by rw [List.length_set]; exact TL.out⟩, OK2, STEP, ⟨RV⟩, ⟨BO⟩, ⟨BT⟩, ⟨BR⟩, ⟨HB⟩⟩
          · have c0b : (s.f0 == 0) = false := by simpa using c0
            by_cases c1 : s.f0 = 1
            · have SV := Aside0.mk (show impl_PlaySales.l0 a0_0 a0_1 m s = (impl_Unbook.l0 m s.f1, if 0 ≤ impl_Unbook.l1 m s.f1 then 0 else -1) by unfold impl_PlaySales.l0; rw [if_neg c0, if_pos c1])
              have c1b : (s.f0 == 1) = true := by simpa using c1
              have ML := Aside0.mk (show m.length ≤ 1000000 by have := (hd_train_parts OKm.out).2.2.1; omega)
              clear c0 c1
              cases hu : decide (0 ≤ impl_Unbook.l1 m s.f1) with
              | true =>
                have HU := Aside0.mk hu
                clear hu
                have hr : Aside0 ((impl_PlaySales.l0 a0_0 a0_1 m s).2 = 0 ∧ (impl_PlaySales.l0 a0_0 a0_1 m s).1 = impl_Unbook.l0 m s.f1) := ⟨by rw [SV.out]; exact ⟨if_pos (of_decide_eq_true HU.out), rfl⟩⟩
                go_wp2_with (go_at_call 61; refine (hd_unbook w _ gO a0_0 a0_1 s.f1 (.slice Am m.length cm) m ML.out BO.out RV.out HB.out GO.out).mono ?_; rintro e12 w12 hpost; obtain ⟨v12, rfl, hB12, hR12, hb12, hk12⟩ := hpost; rw [HU.out]; rw [← hr.out.2] at hR12; obtain ⟨A12, c12, ev12⟩ := Kd.R_slice hR12; subst ev12; have m0_ := Aside0.mk ((hk12 T (blk_lt BT.out) NOT.out.symm (Kd.R_ne RV.out BT.out (by decide))).trans BT.out); have m1_ := Aside0.mk ((hk12 gr (blk_lt BR.out) NRO.out (Kd.R_ne RV.out BR.out (by decide))).trans BR.out); have m2_ := Aside0.mk hB12; have m3_ := Aside0.mk hR12; have m4_ := Aside0.mk hb12; clear BT BO BR RV HB BS hs0 hs1 hs2 hs3 hB12 hR12 hb12 hk12; have hT := hd_cell_at m0_.out hkl2; have hfT := blk_frozen m0_.out kk)
                have BT := hd_set_cells (kk := kk) m0_.out 0
                rw [List.set_set] at BT
                have BO := (Below.heap_setCell w12 ⟨T, kk, none⟩ (.int .i64 0) gO NOT.out).trans m2_.out
                have BR := (Below.heap_setCell w12 ⟨T, kk, none⟩ (.int .i64 0) gr NRT.out).trans m1_.out
                have RV := hd_row_far (kk := kk) m3_.out m0_.out (.int .i64 0)
                have HB := below_set (j := kk) (v := .int .i64 0) m4_.out GT2.out
                go_roundg (l1.length - (kk + 1))
                case measure => omega
                case rel => exact ⟨kk + 1, (impl_PlaySales.l0 a0_0 a0_1 m s).1, A12, c12, tl.set kk (impl_PlaySales.l0 a0_0 a0_1 m s).2, by omega, by omega, by go_num, ⟨by rw [List.length_set]; exact TL.out⟩, OK2, STEP, ⟨RV⟩, ⟨BO⟩, ⟨by rw [hr.out.1]; exact BT⟩, ⟨BR⟩, ⟨HB⟩⟩
              | false =>
                have HU := Aside0.mk hu
                clear hu
                have hr : Aside0 ((impl_PlaySales.l0 a0_0 a0_1 m s).2 = -1 ∧ (impl_PlaySales.l0 a0_0 a0_1 m s).1 = impl_Unbook.l0 m s.f1) := ⟨by rw [SV.out]; exact ⟨if_neg (of_decide_eq_false HU.out), rfl⟩⟩
                go_wp2_with (go_at_call 61; refine (hd_unbook w _ gO a0_0 a0_1 s.f1 (.slice Am m.length cm) m ML.out BO.out RV.out HB.out GO.out).mono ?_; rintro e12 w12 hpost; obtain ⟨v12, rfl, hB12, hR12, hb12, hk12⟩ := hpost; rw [HU.out]; rw [← hr.out.2] at hR12; obtain ⟨A12, c12, ev12⟩ := Kd.R_slice hR12; subst ev12; have m0_ := Aside0.mk ((hk12 T (blk_lt BT.out) NOT.out.symm (Kd.R_ne RV.out BT.out (by decide))).trans BT.out); have m1_ := Aside0.mk ((hk12 gr (blk_lt BR.out) NRO.out (Kd.R_ne RV.out BR.out (by decide))).trans BR.out); have m2_ := Aside0.mk hB12; have m3_ := Aside0.mk hR12; have m4_ := Aside0.mk hb12; clear BT BO BR RV HB BS hs0 hs1 hs2 hs3 hB12 hR12 hb12 hk12)
                go_roundg (l1.length - (kk + 1))
                case measure => omega
                case rel => exact ⟨kk + 1, (impl_PlaySales.l0 a0_0 a0_1 m s).1, A12, c12, tl.set kk (impl_PlaySales.l0 a0_0 a0_1 m s).2, by omega, by omega, by go_num, ⟨by rw [List.length_set]; exact TL.out⟩, OK2, STEP, m3_, m2_, ⟨by rw [hr.out.1]; exact m0_.out⟩, m1_, m4_⟩
            · have SV := Aside0.mk (show impl_PlaySales.l0 a0_0 a0_1 m s = (m, -1) by unfold impl_PlaySales.l0; rw [if_neg c0, if_neg c1])
              have c1b : (s.f0 == 1) = false := by simpa using c1
              clear c0 c1
              rw [SV.out] at STEP OK2
              go_wp2
              go_roundg (l1.length - (kk + 1))
              case measure => omega
              case rel => exact ⟨kk + 1, m, Am, cm, tl.set kk (-1), by omega, by omega, by go_num, ⟨by rw [List.length_set]; exact TL.out⟩, OK2, STEP, RV, BO, BT, BR, HB⟩
        · have hltz : ¬ (kk : Int) < (l1.length : Int) := by omega
          have hkn : kk = l1.length := by omega
          have hco0 : wr.cell? ⟨gO, 0, none⟩ = some (.int .i64 a0_0) := (blk_cell BO.out 0).trans rfl
          have hco1 : wr.cell? ⟨gO, 1, none⟩ = some (.int .i64 a0_1) := (blk_cell BO.out 1).trans rfl
          have hco2 : wr.cell? ⟨gO, 2, none⟩ = some (.slice Am m.length cm) := (blk_cell BO.out 2).trans rfl
          have hcr0 : wr.cell? ⟨gr, 0, none⟩ = some (.int .i64 0) := (blk_cell BR.out 0).trans rfl
          have hcr1 : wr.cell? ⟨gr, 1, none⟩ = some (.int .i64 0) := (blk_cell BR.out 1).trans rfl
          have hcr2 : wr.cell? ⟨gr, 2, none⟩ = some (.slice none 0 0) := (blk_cell BR.out 2).trans rfl
          have hfr0 := blk_frozen BR.out 0
          have hfr1 := blk_frozen BR.out 1
          have hfr2 := blk_frozen BR.out 2
          have KN := Aside0.mk hkn
          clear hkn
          go_wp2
          refine bodyPost_ret (results_ct rfl _ _ gr 29 #[.int .i64 a0_0, .int .i64 a0_1, .slice Am m.length cm] (0, 0) _ rfl (hd_put3 BR.out _ _ _) Try.underlying29 rfl (by kernel_rfl)) rfl ?_
          have E := HE.out
          have hall : impl_PlaySales.l1 a0_0 a0_1 l1 l0_2 = (m, tl) := by
            rw [EQ.out, KN.out, List.drop_length, ← TL.out, List.take_length]
            simp [impl_PlaySales.l1]
          rw [if_pos ⟨by first | rfl | trivial, HN.out⟩, hall] at E
          simp only [Prod.mk.injEq] at E
          obtain ⟨rfl, rfl, rfl, rfl⟩ := E
          have htold := fun x y z => hd_told (hd_far3 BT.out NRT.out.symm x y z) GT2.out (by rw [TL.out]; exact HN.out)
          rw [TL.out] at htold
          exact ⟨_, _, rfl, hd_row3 RV.out BR.out _ _ _, htold _ _ _, hd_below3 HB.out GR.out _ _ _⟩

end Go.Proofs.Ytklikbjlfaednaa.P

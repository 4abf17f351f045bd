/- Contracts of the functions of the program, each one with its plain Lean function; written by a program of the session out of the translation. -/
import Derived.Test.YtklikbjlfaednaaPx0
import Derived.Test.YtklikbjlfaednaaPx3
import Derived.Test.YtklikbjlfaednaaPx9
import Derived.Test.YtklikbjlfaednaaPx10
import Derived.Test.YtklikbjlfaednaaPx35
namespace Go.Proofs.Ytklikbjlfaednaa.P
open Go.RowKit Go.Proofs.YtklikbjlfaednaaW.PrintWords Go.Proofs.YtklikbjlfaednaaW.PrintLast Go.Proofs.YtklikbjlfaednaaW.PrintMore
attribute [local go_sem] max2_int min2_int max_two min_two max_three min_three max_four min_four   -- for this text's walks alone
set_option linter.unusedVariables false
set_option linter.unusedSimpArgs false

/-! ### impl_Book: function 36, by hand -/

set_option maxHeartbeats 8000000 in
set_option maxRecDepth 100000 in
theorem impl_Book.calls (a0_0 : Int) (a0_1 : Int) (A0_2 : Option Addr) (c0_2 : Nat) (l0_2 : List (S66)) (a1 : Int) (a2 : Int) (a3 : Int) (r1 : Int) (r2 : Int) (r3 : List (S66)) (r4 : Int) (w : World) (hr0_2 : Kd.C k66 w A0_2 l0_2.length l0_2) (hc0_2 : l0_2.length ≤ c0_2) (h : impl_Book.f a0_0 a0_1 l0_2 a1 a2 a3 = some (r1, r2, r3, r4)) :
    Calls Try.prog 36 #[.agg #[.int .i64 a0_0, .int .i64 a0_1, .slice A0_2 l0_2.length c0_2], .int .i64 a1, .int .i64 a2, .int .i64 a3] w fun e w' => ∃ v2_ : Value, e = .returned (.tuple #[.agg #[.int .i64 r1, .int .i64 r2, v2_], .int .i64 r4]) ∧ Kd.R k66 66 w' w.heap.size (fun _ => True) v2_ r3 ∧ Below w.heap.size w w' := by
  have hu29 := Try.underlying29
  have HR := Aside0.mk hr0_2
  have HC := Aside0.mk hc0_2
  clear hr0_2 hc0_2
  have HB := Aside0.mk (Below.refl w.heap.size w)
  by_cases hl : l0_2.length < 4398046511104
  rotate_left
  · unfold impl_Book.f at h; rw [if_neg hl] at h; cases h
  unfold impl_Book.f at h
  rw [if_pos hl] at h
  have HCL := Aside0.mk (hd_clone a0_0 a0_1 l0_2 hl)
  clear hl
  obtain ⟨bo, hbo⟩ : ∃ b, impl_TrainOk.l0 a0_0 a0_1 l0_2 = b := ⟨_, rfl⟩
  rw [hbo] at h
  have HOK := Aside0.mk (show impl_TrainOk.f a0_0 a0_1 l0_2 = some bo by unfold impl_TrainOk.f; rw [hbo])
  have HSH := Aside0.mk hbo
  clear hbo
  have HE := Aside0.mk (Option.some.inj h)
  clear h
  go_enter Try.func36, Try.ntmps36
  go_upto_region 1 with (first | ((with_reducible refine gate_dst (N := 4) rfl ?_); refine box_event ?hg (N := 4) ?hd (cs := #[.int .i64 a0_0, .int .i64 a0_1, .slice A0_2 l0_2.length c0_2]) (t := 29) ?hr ?_; (case hd => rfl); (case hg => rfl); (case hr => first | (go_simp; done) | (go_simp; rfl)); intro gt hg w3 hbox hb; have GT := Aside0.mk (show w.heap.size ≤ gt by rw [hg]; exact Nat.le_refl _); have BT := Aside0.mk hbox; have n1_ := Aside0.mk (below_step HB.out hb); clear HB; have HB := n1_; clear n1_ hb hbox hg) | ((with_reducible refine gate_dst (N := 8) rfl ?_); refine box_event ?hg (N := 8) ?hd (cs := #[.int .i64 0, .int .i64 0, .slice none 0 0]) (t := 29) ?hr ?_; (case hd => rfl); (case hg => rfl); (case hr => first | (go_simp; done) | (go_simp; rfl)); intro gr hg w4 hbox hb; have GR := Aside0.mk (show w.heap.size ≤ gr by rw [hg]; exact HB.out.size); have NTR := Aside0.mk (show gt ≠ gr by rw [hg]; exact Nat.ne_of_lt (blk_lt BT.out)); have BR := Aside0.mk hbox; have n0_ := Aside0.mk (blk_below BT.out hb); have n1_ := Aside0.mk (below_step HB.out hb); clear HB BT; have HB := n1_; have BT := n0_; clear n0_ n1_ hb hbox hg))
  have hct0 : w4.cell? ⟨gt, 0, none⟩ = some (.int .i64 a0_0) := (blk_cell BT.out 0).trans rfl
  have hct1 : w4.cell? ⟨gt, 1, none⟩ = some (.int .i64 a0_1) := (blk_cell BT.out 1).trans rfl
  have hct2 : w4.cell? ⟨gt, 2, none⟩ = some (.slice A0_2 l0_2.length c0_2) := (blk_cell BT.out 2).trans rfl
  go_upto_region 2 with (first | (go_at_call 60; (with_reducible refine (impl_cloneTrain.calls a0_0 a0_1 A0_2 c0_2 l0_2 a0_0 a0_1 l0_2 _ (Kd.C_below HR.out HB.out) HC.out HCL.out).mono ?_); rintro e w5 ⟨v, rfl, hv, hb⟩; obtain ⟨Av, cv, ev⟩ := Kd.R_slice hv; subst ev; have n0_ := Aside0.mk (blk_below BT.out hb); have n1_ := Aside0.mk (blk_below BR.out hb); have n2_ := Aside0.mk (below_step HB.out hb); have RV := Aside0.mk (Kd.R_lower hv HB.out.size); clear hct0 hct1 hct2 BT BR HB hv hb; have BT := n0_; have BR := n1_; have HB := n2_; clear n0_ n1_ n2_) | ((with_reducible refine gate_dst (N := 10) rfl ?_); refine box_event ?hg (N := 10) ?hd (cs := #[.int .i64 0, .int .i64 0, .slice none 0 0]) (t := 29) ?hr ?_; (case hd => rfl); (case hg => rfl); (case hr => first | (go_simp; done) | (go_simp; rfl)); intro gO hg w6 hbox hb; have GO := Aside0.mk (show w.heap.size ≤ gO by rw [hg]; exact HB.out.size); have NTO := Aside0.mk (show gt ≠ gO by rw [hg]; exact Nat.ne_of_lt (blk_lt BT.out)); have NRO := Aside0.mk (show gr ≠ gO by rw [hg]; exact Nat.ne_of_lt (blk_lt BR.out)); have BO := Aside0.mk hbox; have n0_ := Aside0.mk (blk_below BT.out hb); have n1_ := Aside0.mk (blk_below BR.out hb); have n2_ := Aside0.mk (below_step HB.out hb); have n3_ := Aside0.mk (Kd.R_below RV.out hb); clear HB BT BR RV; have HB := n2_; have BT := n0_; have BR := n1_; have RV := n3_; clear n0_ n1_ n2_ n3_ hb hbox hg; have hco0 : w6.cell? ⟨gO, 0, none⟩ = some (.int .i64 0) := (blk_cell BO.out 0).trans rfl; have hco1 : w6.cell? ⟨gO, 1, none⟩ = some (.int .i64 0) := (blk_cell BO.out 1).trans rfl; have hco2 : w6.cell? ⟨gO, 2, none⟩ = some (.slice none 0 0) := (blk_cell BO.out 2).trans rfl; have hfo0 := blk_frozen BO.out 0; have hfo1 := blk_frozen BO.out 1; have hfo2 := blk_frozen BO.out 2))
  have n0_ := Aside0.mk (hd_far3 BT.out NTO.out (.int .i64 a0_0) (.int .i64 a0_1) (.slice Av l0_2.length cv))
  have n1_ := Aside0.mk (hd_far3 BR.out NRO.out (.int .i64 a0_0) (.int .i64 a0_1) (.slice Av l0_2.length cv))
  have n2_ := Aside0.mk (hd_put3 BO.out (.int .i64 a0_0) (.int .i64 a0_1) (.slice Av l0_2.length cv))
  have n3_ := Aside0.mk (hd_row3 RV.out BO.out (.int .i64 a0_0) (.int .i64 a0_1) (.slice Av l0_2.length cv))
  have n4_ := Aside0.mk (hd_below3 HB.out GO.out (.int .i64 a0_0) (.int .i64 a0_1) (.slice Av l0_2.length cv))
  clear hco0 hco1 hco2 hfo0 hfo1 hfo2 BT BR BO RV HB
  generalize ((w6.setCell ⟨gO, 0, none⟩ (.int .i64 a0_0)).setCell ⟨gO, 1, none⟩ (.int .i64 a0_1)).setCell ⟨gO, 2, none⟩ (.slice Av l0_2.length cv) = w7 at n0_ n1_ n2_ n3_ n4_ ⊢
  have BT := n0_
  have BR := n1_
  have BO := n2_
  have RV := n3_
  have HB := n4_
  clear n0_ n1_ n2_ n3_ n4_
  have hct0 : w7.cell? ⟨gt, 0, none⟩ = some (.int .i64 a0_0) := (blk_cell BT.out 0).trans rfl
  have hct1 : w7.cell? ⟨gt, 1, none⟩ = some (.int .i64 a0_1) := (blk_cell BT.out 1).trans rfl
  have hct2 : w7.cell? ⟨gt, 2, none⟩ = some (.slice A0_2 l0_2.length c0_2) := (blk_cell BT.out 2).trans rfl
  cases bo with
  | false =>
    go_wp2_with (go_at_call 15; (with_reducible refine (impl_TrainOk.calls a0_0 a0_1 A0_2 c0_2 l0_2 false _ (Kd.C_below HR.out HB.out) HC.out HOK.out).mono ?_); rintro e w8 ⟨rfl, hb⟩; have n0_ := Aside0.mk (blk_below BT.out hb); have n1_ := Aside0.mk (blk_below BR.out hb); have n2_ := Aside0.mk (below_step HB.out hb); have n3_ := Aside0.mk (Kd.R_below RV.out hb); have n4_ := Aside0.mk (blk_below BO.out hb); clear hct0 hct1 hct2 BT BR BO RV HB hb; have BT := n0_; have BR := n1_; have HB := n2_; have RV := n3_; have BO := n4_; clear n0_ n1_ n2_ n3_ n4_; have hco0 : w8.cell? ⟨gO, 0, none⟩ = some (.int .i64 a0_0) := (blk_cell BO.out 0).trans rfl; have hco1 : w8.cell? ⟨gO, 1, none⟩ = some (.int .i64 a0_1) := (blk_cell BO.out 1).trans rfl; have hco2 : w8.cell? ⟨gO, 2, none⟩ = some (.slice Av l0_2.length cv) := (blk_cell BO.out 2).trans rfl; have hcr0 : w8.cell? ⟨gr, 0, none⟩ = some (.int .i64 0) := (blk_cell BR.out 0).trans rfl; have hcr1 : w8.cell? ⟨gr, 1, none⟩ = some (.int .i64 0) := (blk_cell BR.out 1).trans rfl; have hcr2 : w8.cell? ⟨gr, 2, none⟩ = some (.slice none 0 0) := (blk_cell BR.out 2).trans rfl; have hfr0 := blk_frozen BR.out 0; have hfr1 := blk_frozen BR.out 1; have hfr2 := blk_frozen BR.out 2)
    refine bodyPost_ret (results_ct rfl _ _ gr 29 #[.int .i64 a0_0, .int .i64 a0_1, (.slice Av l0_2.length cv)] (0, 0) _ rfl (hd_put3 BR.out _ _ _) Try.underlying29 rfl (by kernel_rfl)) rfl ?_
    have E := HE.out
    simp only [Bool.false_eq_true, if_false, Prod.mk.injEq] at E
    obtain ⟨rfl, rfl, rfl, rfl⟩ := E
    exact ⟨_, rfl, hd_row3 RV.out BR.out _ _ _, hd_below3 HB.out GR.out _ _ _⟩
  | true =>
    go_upto_region 4 with (go_at_call 15; (with_reducible refine (impl_TrainOk.calls a0_0 a0_1 A0_2 c0_2 l0_2 true _ (Kd.C_below HR.out HB.out) HC.out HOK.out).mono ?_); rintro e w8 ⟨rfl, hb⟩; have n0_ := Aside0.mk (blk_below BT.out hb); have n1_ := Aside0.mk (blk_below BR.out hb); have n2_ := Aside0.mk (below_step HB.out hb); have n3_ := Aside0.mk (Kd.R_below RV.out hb); have n4_ := Aside0.mk (blk_below BO.out hb); clear hct0 hct1 hct2 BT BR BO RV HB hb; have BT := n0_; have BR := n1_; have HB := n2_; have RV := n3_; have BO := n4_; clear n0_ n1_ n2_ n3_ n4_)
    go_upto_region 5 with (go_at_call 67; refine (hd_book w _ gO a0_0 a0_1 a1 a2 a3 Av cv l0_2 HSH.out BO.out RV.out HB.out GO.out).mono ?_; rintro e w9 hpost; obtain ⟨v9, rfl, hB9, hR9, hb9, hk9⟩ := hpost; have n1_ := Aside0.mk ((hk9 gr (blk_lt BR.out) NRO.out (Kd.R_ne RV.out BR.out (by decide))).trans BR.out); obtain ⟨A9, c9, ev9⟩ := Kd.R_slice hR9; subst ev9; have n2_ := Aside0.mk hR9; have n3_ := Aside0.mk hb9; have n4_ := Aside0.mk hB9; clear BT BR BO RV HB hB9 hR9 hb9 hk9; have BR := n1_; have RV := n2_; have HB := n3_; have BO := n4_; clear n1_ n2_ n3_ n4_)
    have hco0 : w9.cell? ⟨gO, 0, none⟩ = some (.int .i64 a0_0) := (blk_cell BO.out 0).trans rfl
    have hco1 : w9.cell? ⟨gO, 1, none⟩ = some (.int .i64 a0_1) := (blk_cell BO.out 1).trans rfl
    have hco2 : w9.cell? ⟨gO, 2, none⟩ = some (.slice A9 (impl_Book.l6 a0_0 a0_1 l0_2 a1 a2 a3).1.length c9) := (blk_cell BO.out 2).trans rfl
    have hcr0 : w9.cell? ⟨gr, 0, none⟩ = some (.int .i64 0) := (blk_cell BR.out 0).trans rfl
    have hcr1 : w9.cell? ⟨gr, 1, none⟩ = some (.int .i64 0) := (blk_cell BR.out 1).trans rfl
    have hcr2 : w9.cell? ⟨gr, 2, none⟩ = some (.slice none 0 0) := (blk_cell BR.out 2).trans rfl
    have hfr0 := blk_frozen BR.out 0
    have hfr1 := blk_frozen BR.out 1
    have hfr2 := blk_frozen BR.out 2
    go_wp2
    refine bodyPost_ret (results_ct rfl _ _ gr 29 #[.int .i64 a0_0, .int .i64 a0_1, .slice A9 (impl_Book.l6 a0_0 a0_1 l0_2 a1 a2 a3).1.length c9] (0, 0) _ rfl (hd_put3 BR.out _ _ _) Try.underlying29 rfl (by kernel_rfl)) rfl ?_
    have E := HE.out
    simp only [if_true, Prod.mk.injEq] at E
    obtain ⟨rfl, rfl, rfl, rfl⟩ := E
    exact ⟨_, rfl, hd_row3 RV.out BR.out _ _ _, hd_below3 HB.out GR.out _ _ _⟩

end Go.Proofs.Ytklikbjlfaednaa.P

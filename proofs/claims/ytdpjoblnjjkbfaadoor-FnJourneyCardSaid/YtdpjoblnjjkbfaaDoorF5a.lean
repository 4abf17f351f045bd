/- The program's goes: a contract by hand. -/
import Derived.Test.YtdpjoblnjjkbfaaDoorF3a
import Derived.Test.YtdpjoblnjjkbfaaDoorPx21
import Derived.Test.YtdpjoblnjjkbfaaDoorPx1
import Derived.BigRegion
import Derived.Deep.RegionHeld3
namespace Go.Proofs.YtdpjoblnjjkbfaaDoor.P
open Go.RowKit Go.Proofs.YtdpjoblnjjkbfaaDoorW.PrintWords Go.Proofs.YtdpjoblnjjkbfaaDoorW.PrintLast Go.Proofs.YtdpjoblnjjkbfaaDoorW.PrintMore
attribute [local go_sem] max2_int min2_int max_two min_two max_three min_three max_four min_four   -- for this text's walks alone
set_option linter.unusedVariables false
set_option linter.unusedSimpArgs false

/-- A leg that lies in the table. -/
def lg_in (l : List S46) (x : S48) : Prop := 0 ≤ x.f0 ∧ x.f0 < (l.length : Int) ∧ 0 ≤ x.f1 ∧ x.f1 < x.f2 ∧ x.f2 < ((rd_T46 l x.f0).f1.length : Int)
def lg_ok (l : List S46) (x : S48) : Prop := lg_in l x ∧ 0 ≤ (impl_departures.l2 l x).f0 ∧ (impl_departures.l2 l x).f0 < 30 ∧ 0 ≤ (impl_departures.l2 l x).f1 ∧ (impl_departures.l2 l x).f1 ≤ 100000 ∧ 0 ≤ (impl_departures.l1 l x).f2 ∧ (impl_departures.l1 l x).f2 ≤ 100000
theorem lg_leaves {l : List S46} {x : S48} (h : lg_in l x) : impl_leaves.f l x.f0 x.f1 x.f2 = some (impl_departures.l1 l x).f2 := by
  obtain ⟨h0, h1, h2, h3, h4⟩ := h
  unfold impl_leaves.f
  rw [if_pos h0, if_pos h1, if_pos h2, if_pos (by omega)]; rfl
theorem lg_ends {l : List S46} {x : S48} (h : lg_in l x) : impl_ends.f l x.f0 x.f1 x.f2 = some (impl_departures.l2 l x).f0 := by
  obtain ⟨h0, h1, h2, h3, h4⟩ := h
  unfold impl_ends.f
  rw [if_pos h0, if_pos h1, if_pos (by omega), if_pos (by omega)]; rfl
theorem lg_arrives {l : List S46} {x : S48} (h : lg_in l x) : impl_arrives.f l x.f0 x.f1 x.f2 = some (impl_departures.l2 l x).f1 := by
  obtain ⟨h0, h1, h2, h3, h4⟩ := h
  unfold impl_arrives.f
  rw [if_pos h0, if_pos h1, if_pos (by omega), if_pos (by omega)]; rfl
theorem hd_box74 (a : Act) (o : Oper) (W : World) (X : Array Value) (hX : X.size = 30) (t : Tmp) (ho : o.op = .box 74 (.tmp t)) (ht : a.eval (.tmp t) = .agg X) : (execOp a.eval o).run Tryd.prog W = .ok (.value (.pointer (some ⟨W.heap.size, 0, none⟩))) (W.alloc (.cells X 74 (0, 0))) := by
  unfold execOp
  rw [ho]
  simp only [ht]
  simp [Instr.box, newVar, newRow, Value.cells, newObj, Sem.run]
def GS (w : World) (gb gr : Nat) (C X : Array Value) (w' : World) : Prop := w'.heap[gb]? = some (.cells C 48 (0, 0)) ∧ w'.heap[gr]? = some (.cells X 74 (0, 0)) ∧ Below w.heap.size w w'
theorem gs_step {w w1 w2 : World} {gb gr : Nat} {C X : Array Value} (h : GS w gb gr C X w1) (hb : Below w1.heap.size w1 w2) : GS w gb gr C X w2 := ⟨blk_below h.1 hb, blk_below h.2.1 hb, below_step h.2.2 hb⟩
theorem gs_drew {w w' : World} {gb gr : Nat} {C X : Array Value} (h : GS w gb gr C X w') : GS w gb gr C X w'.drew := ⟨h.1, h.2.1, below_drew1 h.2.2⟩
theorem gs_b {w w' : World} {gb gr : Nat} {C X : Array Value} (h : GS w gb gr C X w') : Below w.heap.size w w' := h.2.2
theorem gs_of {A B C D : Prop} {w w' : World} {gb gr : Nat} {C' X : Array Value} (h : A ∧ B ∧ C ∧ D ∧ GS w gb gr C' X w') : GS w gb gr C' X w' := h.2.2.2.2
theorem gs_step2 {A B C D : Prop} {w w1 w2 : World} {gb gr : Nat} {C' X : Array Value} (hb : Below w1.heap.size w1 w2) (h : A ∧ B ∧ C ∧ D ∧ GS w gb gr C' X w1) : GS w gb gr C' X w2 := gs_step h.2.2.2.2 hb
theorem gs_all {w w' : World} {gb gr m : Nat} {x0 x1 x2 : Int} {X : Array Value} {v : Value} (hX : X[m]? = some v) (h : GS w gb gr #[.int .i64 x0, .int .i64 x1, .int .i64 x2] X w') :
    w'.cell? ⟨gb, 0, none⟩ = some (.int .i64 x0) ∧ w'.cell? ⟨gb, 1, none⟩ = some (.int .i64 x1) ∧ w'.cell? ⟨gb, 2, none⟩ = some (.int .i64 x2) ∧ w'.cell? ⟨gr, m, none⟩ = some v ∧ GS w gb gr #[.int .i64 x0, .int .i64 x1, .int .i64 x2] X w' :=
  ⟨(blk_cell h.1 0).trans rfl, (blk_cell h.1 1).trans rfl, (blk_cell h.1 2).trans rfl, (blk_cell h.2.1 m).trans hX, h⟩
set_option maxHeartbeats 16000000 in
set_option maxRecDepth 100000 in
theorem hd_goes (A0 : Option Addr) (c0 : Nat) (l0 : List (S46)) (x : S48) (tg by_ ch : Int) (last : Bool) (X : Array Value) (rw : Nat → Int) (w : World) (hr0 : Kd.C k46 w A0 l0.length l0) (hc0 : l0.length ≤ c0) (hXs : X.size = 30) (hXg : ∀ i, i < 30 → X[i]? = some (.int .i64 (rw i))) (hx : lg_ok l0 x) (hch : 0 ≤ ch ∧ ch ≤ 60) :
    Calls Tryd.prog 38 #[.slice A0 l0.length c0, .agg #[.int .i64 x.f0, .int .i64 x.f1, .int .i64 x.f2], .int .i64 tg, .int .i64 by_, .int .i64 ch, .agg X, .bool last] w fun e w' => e = .returned (.bool (impl_departures.l3 l0 tg by_ ch last rw x)) ∧ Below w.heap.size w w' := by
  have hu48 := Tryd.underlying48; have hu74 := Tryd.underlying74
  have mixed : Tryd.prog.follows Departure.mixedOrders = true := by kernel_rfl
  have HR0 := Aside0.mk hr0
  have HX := Aside0.mk hXg
  have HXS := Aside0.mk hXs
  have HL := Aside0.mk hx.1
  obtain ⟨_, h0, h1, h2, h3, _, _⟩ := hx
  obtain ⟨en, hen⟩ : ∃ q, q = (impl_departures.l2 l0 x).f0 := ⟨_, rfl⟩
  obtain ⟨ar, har⟩ : ∃ q, q = (impl_departures.l2 l0 x).f1 := ⟨_, rfl⟩
  rw [← hen] at h0 h1
  rw [← har] at h2 h3
  have HE : Aside0 (impl_ends.f l0 x.f0 x.f1 x.f2 = some en) := ⟨by rw [hen]; exact lg_ends HL.out⟩
  have HAr : Aside0 (impl_arrives.f l0 x.f0 x.f1 x.f2 = some ar) := ⟨by rw [har]; exact lg_arrives HL.out⟩
  obtain ⟨r, hr⟩ : ∃ q, q = impl_departures.l3 l0 tg by_ ch last rw x := ⟨_, rfl⟩
  rw [← hr]
  unfold impl_departures.l3 at hr
  rw [← hen, ← har] at hr
  obtain ⟨m, hm⟩ : ∃ q : Nat, en = (q : Int) := ⟨en.toNat, by omega⟩
  subst hm
  rw [Int.toNat_natCast] at hr
  have HRES := Aside0.mk hr
  clear hr0 hXg hXs hen har hr HL
  obtain ⟨x0, x1, x2⟩ := x
  dsimp only at HE HAr ⊢
  have HXM : Aside0 (X[m]? = some (.int .i64 (rw m))) := ⟨HX.out m (by omega)⟩
  clear HX
  cases last with
  | true =>
    by_cases c1 : (m : Int) = tg
    · have c1b : decide ((m : Int) = tg) = true := decide_eq_true c1
      by_cases c2 : ar ≤ by_
      · have c2b : decide (ar ≤ by_) = true := decide_eq_true c2
        obtain rfl : r = true := by rw [HRES.out]; simp [c1, c2]
        go_enter Tryd.func38, Tryd.ntmps38
        go_wp2_with (first
          | ((with_reducible refine gate_dst (N := 8) rfl ?_); refine box_event ?hg (N := 8) ?hd (cs := #[.int .i64 x0, .int .i64 x1, .int .i64 x2]) (t := 48) ?hr ?_; (case hd => rfl); (case hg => rfl); (case hr => first | (go_simp; done) | (go_simp; rfl)); intro gb hg w7 hbox hb; have HB := Aside0.mk hb; have BK := Aside0.mk hbox; clear hb hbox hg)
          | ((with_reducible refine gate_dst (N := 12) rfl ?_); refine box_event ?hg (N := 12) ?hd (cs := X) (t := 74) (hd_box74 _ _ _ X HXS.out 5 rfl rfl) ?_; (case hd => rfl); (case hg => rfl); intro gr hg w8 hbox hb; have HG : GS w gb gr #[.int .i64 x0, .int .i64 x1, .int .i64 x2] X w8 := ⟨blk_below BK.out hb, hbox, below_step HB.out hb⟩; obtain ⟨hcz0, hcz1, hcz2, hcz3, _⟩ := gs_all HXM.out HG; clear hb hbox hg)
          | (go_at_call 39; refine (impl_ends.calls A0 c0 l0 x0 x1 x2 (m : Int) _ (Kd.C_below HR0.out HG.2.2) hc0 HE.out).mono ?_; rintro e w9 ⟨rfl, hb⟩; have HG9 := gs_step HG hb; clear hcz0 hcz1 hcz2 hcz3; obtain ⟨hcz0, hcz1, hcz2, hcz3, _⟩ := gs_all HXM.out HG9; clear HG hb)
          | (go_at_call 27; refine (impl_arrives.calls A0 c0 l0 x0 x1 x2 ar _ (Kd.C_below HR0.out HG9.2.2) hc0 HAr.out).mono ?_; rintro e w10 ⟨rfl, hb⟩; have HG10 := gs_step HG9 hb; clear HG9 hb))
        go_ret
        exact ⟨rfl, HG10.2.2⟩
      · have c2b : decide (ar ≤ by_) = false := decide_eq_false c2
        obtain rfl : r = false := by rw [HRES.out]; simp [c2]
        go_enter Tryd.func38, Tryd.ntmps38
        go_wp2_with (first
          | ((with_reducible refine gate_dst (N := 8) rfl ?_); refine box_event ?hg (N := 8) ?hd (cs := #[.int .i64 x0, .int .i64 x1, .int .i64 x2]) (t := 48) ?hr ?_; (case hd => rfl); (case hg => rfl); (case hr => first | (go_simp; done) | (go_simp; rfl)); intro gb hg w7 hbox hb; have HB := Aside0.mk hb; have BK := Aside0.mk hbox; clear hb hbox hg)
          | ((with_reducible refine gate_dst (N := 12) rfl ?_); refine box_event ?hg (N := 12) ?hd (cs := X) (t := 74) (hd_box74 _ _ _ X HXS.out 5 rfl rfl) ?_; (case hd => rfl); (case hg => rfl); intro gr hg w8 hbox hb; have HG : GS w gb gr #[.int .i64 x0, .int .i64 x1, .int .i64 x2] X w8 := ⟨blk_below BK.out hb, hbox, below_step HB.out hb⟩; obtain ⟨hcz0, hcz1, hcz2, hcz3, _⟩ := gs_all HXM.out HG; clear hb hbox hg)
          | (go_at_call 39; refine (impl_ends.calls A0 c0 l0 x0 x1 x2 (m : Int) _ (Kd.C_below HR0.out HG.2.2) hc0 HE.out).mono ?_; rintro e w9 ⟨rfl, hb⟩; have HG9 := gs_step HG hb; clear hcz0 hcz1 hcz2 hcz3; obtain ⟨hcz0, hcz1, hcz2, hcz3, _⟩ := gs_all HXM.out HG9; clear HG hb)
          | (go_at_call 27; refine (impl_arrives.calls A0 c0 l0 x0 x1 x2 ar _ (Kd.C_below HR0.out HG9.2.2) hc0 HAr.out).mono ?_; rintro e w10 ⟨rfl, hb⟩; have HG10 := gs_step HG9 hb; clear HG9 hb))
        go_ret
        exact ⟨rfl, HG10.2.2⟩
    · have c1b : decide ((m : Int) = tg) = false := decide_eq_false c1
      obtain rfl : r = false := by rw [HRES.out]; simp [c1]
      go_enter Tryd.func38, Tryd.ntmps38
      go_wp2_with (first
          | ((with_reducible refine gate_dst (N := 8) rfl ?_); refine box_event ?hg (N := 8) ?hd (cs := #[.int .i64 x0, .int .i64 x1, .int .i64 x2]) (t := 48) ?hr ?_; (case hd => rfl); (case hg => rfl); (case hr => first | (go_simp; done) | (go_simp; rfl)); intro gb hg w7 hbox hb; have HB := Aside0.mk hb; have BK := Aside0.mk hbox; clear hb hbox hg)
          | ((with_reducible refine gate_dst (N := 12) rfl ?_); refine box_event ?hg (N := 12) ?hd (cs := X) (t := 74) (hd_box74 _ _ _ X HXS.out 5 rfl rfl) ?_; (case hd => rfl); (case hg => rfl); intro gr hg w8 hbox hb; have HG : GS w gb gr #[.int .i64 x0, .int .i64 x1, .int .i64 x2] X w8 := ⟨blk_below BK.out hb, hbox, below_step HB.out hb⟩; obtain ⟨hcz0, hcz1, hcz2, hcz3, _⟩ := gs_all HXM.out HG; clear hb hbox hg)
          | (go_at_call 39; refine (impl_ends.calls A0 c0 l0 x0 x1 x2 (m : Int) _ (Kd.C_below HR0.out HG.2.2) hc0 HE.out).mono ?_; rintro e w9 ⟨rfl, hb⟩; have HG9 := gs_step HG hb; clear hcz0 hcz1 hcz2 hcz3; obtain ⟨hcz0, hcz1, hcz2, hcz3, _⟩ := gs_all HXM.out HG9; clear HG hb))
      go_ret
      exact ⟨rfl, HG9.2.2⟩
  | false =>
    have hw : wrap64 (ar + ch) = ar + ch := by unfold wrap64; omega
    go_enter Tryd.func38, Tryd.ntmps38
    go_wp2_with (first
          | ((with_reducible refine gate_dst (N := 8) rfl ?_); refine box_event ?hg (N := 8) ?hd (cs := #[.int .i64 x0, .int .i64 x1, .int .i64 x2]) (t := 48) ?hr ?_; (case hd => rfl); (case hg => rfl); (case hr => first | (go_simp; done) | (go_simp; rfl)); intro gb hg w7 hbox hb; have HB := Aside0.mk hb; have BK := Aside0.mk hbox; clear hb hbox hg)
          | ((with_reducible refine gate_dst (N := 12) rfl ?_); refine box_event ?hg (N := 12) ?hd (cs := X) (t := 74) (hd_box74 _ _ _ X HXS.out 5 rfl rfl) ?_; (case hd => rfl); (case hg => rfl); intro gr hg w8 hbox hb; have HG : GS w gb gr #[.int .i64 x0, .int .i64 x1, .int .i64 x2] X w8 := ⟨blk_below BK.out hb, hbox, below_step HB.out hb⟩; obtain ⟨hcz0, hcz1, hcz2, hcz3, _⟩ := gs_all HXM.out HG; clear hb hbox hg))
    go_region_held3 (fun w' => w'.cell? ⟨gb, 0, none⟩ = some (.int .i64 x0) ∧ w'.cell? ⟨gb, 1, none⟩ = some (.int .i64 x1) ∧ w'.cell? ⟨gb, 2, none⟩ = some (.int .i64 x2) ∧ w'.cell? ⟨gr, m, none⟩ = some (.int .i64 (rw m)) ∧ GS w gb gr #[.int .i64 x0, .int .i64 x1, .int .i64 x2] X w')
      (first | exact gs_all HXM.out (by assumption) | exact gs_all HXM.out (gs_drew (by assumption)) | exact gs_all HXM.out (gs_step2 (by assumption) (by assumption)) | exact gs_all HXM.out (gs_step (by assumption) (by assumption)))
      (first
        | (go_at_call 39; refine (impl_ends.calls A0 c0 l0 x0 x1 x2 (m : Int) _ (Kd.C_below HR0.out (gs_b (gs_of (by assumption)))) hc0 HE.out).mono ?_; rintro e w9 ⟨rfl, hb⟩)
        | (go_at_call 27; refine (impl_arrives.calls A0 c0 l0 x0 x1 x2 ar _ (Kd.C_below HR0.out (gs_b (gs_of (by assumption)))) hc0 HAr.out).mono ?_; rintro e w10 ⟨rfl, hb⟩))
    have hw2 : IntKind.i64.wrap (ar + ch) = ar + ch := by first | exact hw | (simp only [IntKind.wrap_i64]; omega)
    rw [hw2]
    go_wp2
    go_ret
    exact ⟨by rw [HRES.out]; simp, gs_b (gs_of (by assumption))⟩
end Go.Proofs.YtdpjoblnjjkbfaaDoor.P

/- What stays in place while the law of the seats walks: blocks of its own, and rows that nobody writes. -/
import Derived.Test.YtklikbjlfaednaaPx12
import Derived.Test.YtklikbjlfaednaaPx3
import Derived.Test.YtklikbjlfaednaaPx7
import Derived.Test.YtklikbjlfaednaaPx37
import Derived.Test.YtklikbjlfaednaaPx38
import Derived.Test.YtklikbjlfaednaaPx30
import Derived.Test.YtklikbjlfaednaaPx31
import Derived.Test.YtklikbjlfaednaaPx9
import Derived.Test.YtklikbjlfaednaaPx36
import Derived.Test.YtklikbjlfaednaaQ1
import Derived.Test.YtklikbjlfaednaaNb
namespace Go.Proofs.Ytklikbjlfaednaa.P
open Go.RowKit Go.Proofs.YtklikbjlfaednaaW.PrintWords Go.Proofs.YtklikbjlfaednaaW.PrintLast Go.Proofs.YtklikbjlfaednaaW.PrintMore
set_option linter.unusedVariables false
set_option linter.unusedSimpArgs false

structure Hp (w0 W : World) (bs : List (Nat × Array Value × TypeId)) (ts : List (Option Addr × Nat × List S66)) (is : List (Option Addr × Nat × List Int)) (ss : List (Option Addr × Nat × List S56)) : Prop where
  hb : Below w0.heap.size w0 W
  nd : (bs.map Prod.fst).Nodup
  blk : ∀ g cs t, (g, cs, t) ∈ bs → w0.heap.size ≤ g ∧ W.heap[g]? = some (.cells cs t (0, 0))
  row : ∀ A c l, (A, c, l) ∈ ts → Kd.R k66 66 W w0.heap.size (fun _ => True) (.slice A l.length c) l
  ints : ∀ A c l, (A, c, l) ∈ is → Kd.R (Kd.int .i64) 3 W w0.heap.size (fun _ => True) (.slice A l.length c) l
  sales : ∀ A c l, (A, c, l) ∈ ss → Kd.R k56 56 W w0.heap.size (fun _ => True) (.slice A l.length c) l
namespace Hp
variable {w0 W W' : World} {bs : List (Nat × Array Value × TypeId)} {ts : List (Option Addr × Nat × List S66)} {is : List (Option Addr × Nat × List Int)} {ss : List (Option Addr × Nat × List S56)}
theorem start {w : World} : Hp w w [] [] [] [] := ⟨Below.refl _ _, List.nodup_nil, by simp, by simp, by simp, by simp⟩
theorem below (h : Hp w0 W bs ts is ss) (hb : Below W.heap.size W W') : Hp w0 W' bs ts is ss :=
  ⟨below_step h.hb hb, h.nd, fun g cs t hm => ⟨(h.blk g cs t hm).1, blk_below (h.blk g cs t hm).2 hb⟩, fun A c l hm => Kd.R_below (h.row A c l hm) hb, fun A c l hm => Kd.R_below (h.ints A c l hm) hb, fun A c l hm => Kd.R_below (h.sales A c l hm) hb⟩
theorem drew (h : Hp w0 W bs ts is ss) : Hp w0 W.drew bs ts is ss := h.below (below_drew1 (Below.refl _ _))
theorem new {g : Nat} {cs : Array Value} {t : TypeId} (h : Hp w0 W bs ts is ss) (hg : g = W.heap.size) (hbox : W'.heap[g]? = some (.cells cs t (0, 0))) (hb : Below W.heap.size W W') : Hp w0 W' ((g, cs, t) :: bs) ts is ss := by
  have k := h.below hb
  refine ⟨k.hb, ?_, fun g' cs' t' hm => ?_, k.row, k.ints, k.sales⟩
  · rw [List.map_cons, List.nodup_cons]
    refine ⟨fun hm => ?_, h.nd⟩
    obtain ⟨⟨g', cs', t'⟩, h1, h2⟩ := List.mem_map.1 hm
    have := blk_lt (h.blk g' cs' t' h1).2
    have h2 : g' = g := h2
    omega
  · rcases List.mem_cons.1 hm with e | hm
    · obtain ⟨rfl, rfl, rfl⟩ : g' = g ∧ cs' = cs ∧ t' = t := by simpa using e
      exact ⟨by rw [hg]; exact h.hb.size, hbox⟩
    · exact k.blk g' cs' t' hm
theorem alloc (h : Hp w0 W bs ts is ss) (cs : Array Value) (t : TypeId) : Hp w0 (W.alloc (.cells cs t (0, 0))) ((W.heap.size, cs, t) :: bs) ts is ss :=
  h.new rfl (blk_new W _) (below_alloc (Below.refl _ _) _)
theorem row_set {α : Type} {d : Kd α} {e : TypeId} {base g j t : Nat} {cs : Array Value} {v : Value} {l : List α} (ho : d.R e W base (fun _ => True) v l) (hb : W.heap[g]? = some (.cells cs t (0, 0))) (ht : ∀ q, q ∈ e :: d.E → q ≠ t) (u : Value) : d.R e (W.setCell ⟨g, j, none⟩ u) base (fun _ => True) v l :=
  Kd.R_mono (Kd.R_far (p := ⟨g, j, none⟩) (Kd.R_types ho hb ht) (fun _ hk => hk.2) u) (fun _ _ => trivial)
theorem row_set3 {α : Type} {d : Kd α} {e : TypeId} {base g : Nat} {x0 x1 x2 : Value} {v : Value} {l : List α} (ho : d.R e W base (fun _ => True) v l) (hb : W.heap[g]? = some (.cells #[x0, x1, x2] 29 (0, 0))) (ht : ∀ q, q ∈ e :: d.E → q ≠ 29) (a b u : Value) : d.R e (((W.setCell ⟨g, 0, none⟩ a).setCell ⟨g, 1, none⟩ b).setCell ⟨g, 2, none⟩ u) base (fun _ => True) v l := by
  have h1 : (W.setCell ⟨g, 0, none⟩ a).heap[g]? = some (.cells #[a, x1, x2] 29 (0, 0)) := blk_put hb 0 a rfl
  have h2 : ((W.setCell ⟨g, 0, none⟩ a).setCell ⟨g, 1, none⟩ b).heap[g]? = some (.cells #[a, b, x2] 29 (0, 0)) := blk_put h1 1 b rfl
  exact row_set (row_set (row_set ho hb ht a) h1 ht b) h2 ht u
theorem put3 {g : Nat} {x0 x1 x2 : Value} (h : Hp w0 W ((g, #[x0, x1, x2], 29) :: bs) ts is ss) (a b v : Value) : Hp w0 (((W.setCell ⟨g, 0, none⟩ a).setCell ⟨g, 1, none⟩ b).setCell ⟨g, 2, none⟩ v) ((g, #[a, b, v], 29) :: bs) ts is ss := by
  obtain ⟨hg, hbk⟩ := h.blk g _ _ List.mem_cons_self
  have hn := h.nd
  rw [List.map_cons, List.nodup_cons] at hn
  refine ⟨hd_below3 h.hb hg a b v, h.nd, fun g' cs' t' hm => ?_, fun A c l hm => row_set3 (h.row A c l hm) hbk (by decide) a b v, fun A c l hm => row_set3 (h.ints A c l hm) hbk (by decide) a b v, fun A c l hm => row_set3 (h.sales A c l hm) hbk (by decide) a b v⟩
  rcases List.mem_cons.1 hm with e | hm
  · obtain ⟨rfl, rfl, rfl⟩ : g' = g ∧ cs' = #[a, b, v] ∧ t' = 29 := by simpa using e
    exact ⟨hg, hd_put3 hbk a b v⟩
  · obtain ⟨h1, h2⟩ := h.blk g' cs' t' (List.mem_cons_of_mem _ hm)
    refine ⟨h1, hd_far3 h2 (fun e => hn.1 ?_) a b v⟩
    rw [← e]
    exact List.mem_map.2 ⟨_, hm, rfl⟩
theorem sub {bs' : List (Nat × Array Value × TypeId)} {ts' : List (Option Addr × Nat × List S66)} {is' : List (Option Addr × Nat × List Int)} {ss' : List (Option Addr × Nat × List S56)} (h : Hp w0 W bs ts is ss) (hn : (bs.map Prod.fst).Nodup → (bs'.map Prod.fst).Nodup) (h1 : ∀ x, x ∈ bs' → x ∈ bs) (h2 : ∀ x, x ∈ ts' → x ∈ ts) (h3 : ∀ x, x ∈ is' → x ∈ is) (h4 : ∀ x, x ∈ ss' → x ∈ ss) : Hp w0 W bs' ts' is' ss' :=
  ⟨h.hb, hn h.nd, fun g cs t hm => h.blk g cs t (h1 _ hm), fun A c l hm => h.row A c l (h2 _ hm), fun A c l hm => h.ints A c l (h3 _ hm), fun A c l hm => h.sales A c l (h4 _ hm)⟩
theorem add66 {A : Option Addr} {c : Nat} {l : List S66} (h : Hp w0 W bs ts is ss) (hv : Kd.R k66 66 W w0.heap.size (fun _ => True) (.slice A l.length c) l) : Hp w0 W bs ((A, c, l) :: ts) is ss :=
  ⟨h.hb, h.nd, h.blk, fun A' c' l' hm => by
    rcases List.mem_cons.1 hm with e | hm
    · obtain ⟨rfl, rfl, rfl⟩ : A' = A ∧ c' = c ∧ l' = l := by simpa using e
      exact hv
    · exact h.row A' c' l' hm, h.ints, h.sales⟩
theorem add3 {A : Option Addr} {c : Nat} {l : List Int} (h : Hp w0 W bs ts is ss) (hv : Kd.R (Kd.int .i64) 3 W w0.heap.size (fun _ => True) (.slice A l.length c) l) : Hp w0 W bs ts ((A, c, l) :: is) ss :=
  ⟨h.hb, h.nd, h.blk, h.row, fun A' c' l' hm => by
    rcases List.mem_cons.1 hm with e | hm
    · obtain ⟨rfl, rfl, rfl⟩ : A' = A ∧ c' = c ∧ l' = l := by simpa using e
      exact hv
    · exact h.ints A' c' l' hm, h.sales⟩
theorem add56 {A : Option Addr} {c : Nat} {l : List S56} (h : Hp w0 W bs ts is ss) (hv : Kd.R k56 56 W w0.heap.size (fun _ => True) (.slice A l.length c) l) : Hp w0 W bs ts is ((A, c, l) :: ss) :=
  ⟨h.hb, h.nd, h.blk, h.row, h.ints, fun A' c' l' hm => by
    rcases List.mem_cons.1 hm with e | hm
    · obtain ⟨rfl, rfl, rfl⟩ : A' = A ∧ c' = c ∧ l' = l := by simpa using e
      exact hv
    · exact h.sales A' c' l' hm⟩
theorem call66 {v : Value} {l : List S66} (h : Hp w0 W bs ts is ss) (hv : Kd.R k66 66 W' W.heap.size (fun _ => True) v l) (hb : Below W.heap.size W W') : ∃ A c, v = .slice A l.length c ∧ Hp w0 W' bs ((A, c, l) :: ts) is ss := by
  obtain ⟨A, c, e⟩ := Kd.R_slice hv
  subst e
  exact ⟨A, c, rfl, (h.below hb).add66 (Kd.R_lower hv h.hb.size)⟩
theorem call3 {v : Value} {l : List Int} (h : Hp w0 W bs ts is ss) (hv : Kd.R (Kd.int .i64) 3 W' W.heap.size (fun _ => True) v l) (hb : Below W.heap.size W W') : ∃ A c, v = .slice A l.length c ∧ Hp w0 W' bs ts ((A, c, l) :: is) ss := by
  obtain ⟨A, c, e⟩ := Kd.R_slice hv
  subst e
  exact ⟨A, c, rfl, (h.below hb).add3 (Kd.R_lower hv h.hb.size)⟩
theorem cells {g : Nat} {x0 x1 x2 : Value} {t : TypeId} (h : Hp w0 W bs ts is ss) (hm : (g, #[x0, x1, x2], t) ∈ bs) : W.cell? ⟨g, 0, none⟩ = some x0 ∧ W.cell? ⟨g, 1, none⟩ = some x1 ∧ W.cell? ⟨g, 2, none⟩ = some x2 := by
  have hb := (h.blk _ _ _ hm).2
  exact ⟨(blk_cell hb 0).trans rfl, (blk_cell hb 1).trans rfl, (blk_cell hb 2).trans rfl⟩
theorem cells4 {g : Nat} {x0 x1 x2 x3 : Value} {t : TypeId} (h : Hp w0 W bs ts is ss) (hm : (g, #[x0, x1, x2, x3], t) ∈ bs) : W.cell? ⟨g, 0, none⟩ = some x0 ∧ W.cell? ⟨g, 1, none⟩ = some x1 ∧ W.cell? ⟨g, 2, none⟩ = some x2 ∧ W.cell? ⟨g, 3, none⟩ = some x3 := by
  have hb := (h.blk _ _ _ hm).2
  exact ⟨(blk_cell hb 0).trans rfl, (blk_cell hb 1).trans rfl, (blk_cell hb 2).trans rfl, (blk_cell hb 3).trans rfl⟩
theorem froz {g : Nat} {cs : Array Value} {t : TypeId} (h : Hp w0 W bs ts is ss) (hm : (g, cs, t) ∈ bs) : W.frozen? ⟨g, 0, none⟩ = false ∧ W.frozen? ⟨g, 1, none⟩ = false ∧ W.frozen? ⟨g, 2, none⟩ = false := by
  have hb := (h.blk _ _ _ hm).2
  exact ⟨blk_frozen hb 0, blk_frozen hb 1, blk_frozen hb 2⟩
theorem c66 {A : Option Addr} {c : Nat} {l : List S66} (h : Hp w0 W bs ts is ss) (hm : (A, c, l) ∈ ts) : Kd.C k66 W A l.length l := (Kd.R_reads' (h.row A c l hm)).2.2
theorem l66 {A : Option Addr} {c : Nat} {l : List S66} (h : Hp w0 W bs ts is ss) (hm : (A, c, l) ∈ ts) : l.length ≤ c := (Kd.R_reads' (h.row A c l hm)).2.1
theorem c3 {A : Option Addr} {c : Nat} {l : List Int} (h : Hp w0 W bs ts is ss) (hm : (A, c, l) ∈ is) : Kd.C (Kd.int .i64) W A l.length l := (Kd.R_reads' (h.ints A c l hm)).2.2
theorem l3 {A : Option Addr} {c : Nat} {l : List Int} (h : Hp w0 W bs ts is ss) (hm : (A, c, l) ∈ is) : l.length ≤ c := (Kd.R_reads' (h.ints A c l hm)).2.1
theorem c56 {A : Option Addr} {c : Nat} {l : List S56} (h : Hp w0 W bs ts is ss) (hm : (A, c, l) ∈ ss) : Kd.C k56 W A l.length l := (Kd.R_reads' (h.sales A c l hm)).2.2
theorem l56 {A : Option Addr} {c : Nat} {l : List S56} (h : Hp w0 W bs ts is ss) (hm : (A, c, l) ∈ ss) : l.length ≤ c := (Kd.R_reads' (h.sales A c l hm)).2.1
theorem turn {gt gl : Nat} {x0 x1 x2 : Value} {cl : Array Value} {A3 A4 A2 A6 : Option Addr} {c3 c4 c2 c6 : Nat} {fin m1 : List S66} {tl : List Int} {sl : List S56} (h : Hp w0 W bs ts is ss) (hn : gt ≠ gl) (h1 : (gt, #[x0, x1, x2], 29) ∈ bs) (h2 : (gl, cl, 29) ∈ bs) (h3 : (A3, c3, fin) ∈ ts) (h4 : (A6, c6, m1) ∈ ts) (h5 : (A4, c4, tl) ∈ is) (h6 : (A2, c2, sl) ∈ ss) (a b v : Value) :
    Hp w0 (((W.setCell ⟨gt, 0, none⟩ a).setCell ⟨gt, 1, none⟩ b).setCell ⟨gt, 2, none⟩ v) [(gl, cl, 29), (gt, #[a, b, v], 29)] [(A3, c3, fin), (A6, c6, m1)] [(A4, c4, tl)] [(A2, c2, sl)] := by
  have k : Hp w0 W [(gt, #[x0, x1, x2], 29), (gl, cl, 29)] [(A3, c3, fin), (A6, c6, m1)] [(A4, c4, tl)] [(A2, c2, sl)] := by
    refine h.sub (fun _ => by simpa using hn) (fun x hx => ?_) (fun x hx => ?_) (fun x hx => ?_) (fun x hx => ?_)
    · rcases List.mem_cons.1 hx with rfl | hx
      · exact h1
      · rw [List.mem_singleton.1 hx]; exact h2
    · rcases List.mem_cons.1 hx with rfl | hx
      · exact h3
      · rw [List.mem_singleton.1 hx]; exact h4
    · rw [List.mem_singleton.1 hx]; exact h5
    · rw [List.mem_singleton.1 hx]; exact h6
  refine (k.put3 a b v).sub (fun _ => by simpa using fun e => hn e.symm) (fun x hx => ?_) (fun _ hx => hx) (fun _ hx => hx) (fun _ hx => hx)
  rcases List.mem_cons.1 hx with rfl | hx
  · exact List.mem_cons_of_mem _ List.mem_cons_self
  · rw [List.mem_singleton.1 hx]; exact List.mem_cons_self
end Hp
theorem mm0 {α : Type} {x : α} {l : List α} : x ∈ x :: l := List.mem_cons_self
theorem mm1 {α : Type} {x y : α} {l : List α} : x ∈ y :: x :: l := List.mem_cons_of_mem _ mm0
theorem mm2 {α : Type} {x y z : α} {l : List α} : x ∈ y :: z :: x :: l := List.mem_cons_of_mem _ mm1
theorem mm3 {α : Type} {x y z u : α} {l : List α} : x ∈ y :: z :: u :: x :: l := List.mem_cons_of_mem _ mm2
theorem mm4 {α : Type} {x y z u v : α} {l : List α} : x ∈ y :: z :: u :: v :: x :: l := List.mem_cons_of_mem _ mm3
section
variable {P : Program} {ops : Array Oper} {Q : Exit → Act → World → Prop} {md : Region.Mode} {S : World → Prop} {ds : List Nat} {X : Bool × List (List Nat × List Nat)} {B : List Nat}
variable {oi : Oper} {v : Value} {fuel : Nat} {l : Array Bool} {a a' : Act} {w : World}
theorem hd_tU6 (i : Nat) (N : Option Tmp) (l' : Array Bool) (hi : ops[i]? = some oi) (hN : oi.dst = N) (hT : rtab md ops = X) (hB : waitsOk X.2 B = true) (hS : S w) (h : wpAnyLast P md ops Q S ds fuel l' a' w)
    (hk : takeW X B ds l.toList l'.toList i = true := by kernel_rfl) (hf : Region.wanted oi (yielded ops a.tmps) = true := by rfl)
    (hy : ∀ w, S w → (execOp a.eval oi).run P w = .ok (.value v) w := by rintro w' ⟨s0, s1, s2, s3, s4, s5⟩; go_simp; with_reducible rfl)
    (ha : a.put N v = a' := by simp only [Act.put, List.setIfInBounds_toArray, List.set_cons_zero, List.set_cons_succ, i64_w, i32_w]; rfl)
    (hQ : ∀ c a w, Q (.panic c) (a.put oi.dst v) w → Q (.panic c) a w := by exact fun _ _ _ h => h) : wpAnyLast P md ops Q S ds (fuel + 1) l a w :=
  take_ l' hi hN (take_ofW hT hB hk) hQ (Or.inl ⟨hf, hy⟩) hS ha h
end
def laws_FnSeats.T23 : Bool × List (List Nat × List Nat) := (true, [([], []), ([], []), ([], []), ([1, 2], [1, 2]), ([3], [3]), ([], []), ([5], [5]), ([], []), ([7], [7]), ([0, 4, 6, 8], [0, 4, 6, 8]), ([], []), ([], []), ([], []), ([12], [12]), ([], []), ([14], [14]), ([10, 11, 13, 15, 9], [10, 11, 13, 15]), ([9, 16], [9, 16])])
def laws_FnSeats.B23 : List Nat := [0, 0, 0, 6, 14, 0, 32, 0, 128, 511, 0, 0, 0, 4096, 0, 16384, 65535, 131071]
theorem laws_FnSeats.tab23 : rtab .any (opsOf Try.f10 23) = laws_FnSeats.T23 := by kernel_rfl
theorem laws_FnSeats.bits23 : waitsOk laws_FnSeats.T23.2 laws_FnSeats.B23 = true := by kernel_rfl
end Go.Proofs.Ytklikbjlfaednaa.P

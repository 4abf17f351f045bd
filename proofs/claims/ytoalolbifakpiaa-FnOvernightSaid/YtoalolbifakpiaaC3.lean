/- The program's Chains: the reference's numbers by task, over lists alone. -/
import Derived.Test.YtoalolbifakpiaaC2
namespace Go.Proofs.Ytoalolbifakpiaa.Pure
open Go.RowKit Go.Proofs.Ytoalolbifakpiaa.P Go.Proofs.YtoalolbifakpiaaW.PrintWords Go.Proofs.YtoalolbifakpiaaW.PrintLast

theorem turn_ok (turn : Int) : impl_turnOk.f turn = some (inB turn 0 120) := by unfold impl_turnOk.f; rw [between]; rfl
theorem un_nat (out : List Int) (i : Nat) : un out (i : Int) = out.getD i (-1) := by unfold un; rw [Int.toNat_natCast]
theorem rel_mem_cat {n : Nat} {od : List Int} {us : List (List Int)} {out : List Int} (h : Rel n od us out) (u : Nat) (hu : u < us.length) (x : Int) : x ∈ cat us u ↔ x ∈ od ∧ un out x = (u : Int) := by
  rw [h.fil u hu, List.mem_filter, beq_iff_eq]
theorem rel_out {n : Nat} {od : List Int} {us : List (List Int)} {out o : List Int} (h : Rel n od us out) (hall : ∀ i : Nat, i < n → (i : Int) ∈ od) (hol : o.length = n) (ho : ∀ t, t ∈ od → un out t < us.length → un o t = un out t) : o = out := by
  apply List.ext_getElem
  · rw [hol, h.ol]
  · intro i h1 h2
    have hm := hall i (by omega)
    have := ho (i : Int) hm (h.ins _ hm).2
    rw [un_nat, un_nat, List.getD_eq_getElem?_getD, List.getD_eq_getElem?_getD, List.getElem?_eq_getElem h1, List.getElem?_eq_getElem h2] at this
    exact this
theorem chains_loop {n : Nat} {od : List Int} {us : List (List Int)} {out : List Int} (h : Rel n od us out) (hall : ∀ i : Nat, i < n → (i : Int) ∈ od) (hb : us.length ≤ 1000) (hc : ∀ u, u < us.length → (cat us u).length ≤ 1000) :
    ∀ u, u ≤ us.length → ∀ o : List Int, o.length = n → (∀ t, t ∈ od → un out t < u → un o t = un out t) → Ev (fun k => impl_Chains.l0 k o us (us.length : Int) (u : Int)) out := by
  refine down us.length (fun o hol ho => ?_) (fun u hu ih o hol ho => ?_)
  · rw [← rel_out h hall hol ho]
    exact ev_some (fun k => by simp [impl_Chains.l0])
  · have inner : ∀ j, j ≤ (cat us u).length → ∀ o : List Int, o.length = n → (∀ t, t ∈ od → un out t < u → un o t = un out t) → (∀ t, t ∈ (cat us u).take j → un o t = un out t) → Ev (fun k => impl_Chains.l1 k o (u : Int) us (us.length : Int) (u : Int) (cat us u) ((cat us u).length : Int) (j : Int)) out := by
      refine down _ (fun o hol h1 h2 => ?_) (fun j hj ih2 o hol h1 h2 => ?_)
      · refine ev_at (ih o hol (fun t ht hlt => ?_)) (fun k => by simp [impl_Chains.l1, w64s hu (show us.length ≤ 1000000000 by omega)])
        by_cases e : un out t = (u : Int)
        · exact h2 t (by rw [List.take_length]; exact (rel_mem_cat h u hu t).2 ⟨ht, e⟩)
        · exact h1 t ht (by omega)
      · obtain ⟨x, hx⟩ : ∃ x, x = (cat us u).getD j 0 := ⟨_, rfl⟩
        have hxm : x ∈ cat us u := by rw [hx]; exact getD_mem _ _ _ hj
        obtain ⟨hxo, hxu⟩ := (rel_mem_cat h u hu x).1 hxm
        obtain ⟨x0, x1⟩ := h.mem x hxo
        have hrd : rd (cat us u) (j : Int) = x := by unfold rd; rw [Int.toNat_natCast, hx]
        refine ev_at (ih2 (o.set x.toNat (u : Int)) (by rw [List.length_set]; exact hol) (fun t ht hlt => ?_) (fun t ht => ?_)) (fun k => ?_)
        · rw [un_set _ _ _ _ x0 (h.mem t ht).1 (by omega)]
          by_cases e : t = x
          · rw [if_pos e, e, hxu]
          · rw [if_neg e]; exact h1 t ht hlt
        · rw [take_getD 0 _ j hj, ← hx] at ht
          have htod : t ∈ od := by
            rcases List.mem_append.1 ht with ht | ht
            · exact ((rel_mem_cat h u hu t).1 (List.mem_of_mem_take ht)).1
            · rw [List.mem_singleton.1 ht]; exact hxo
          rw [un_set _ _ _ _ x0 (h.mem t htod).1 (by omega)]
          by_cases e : t = x
          · rw [if_pos e, e, hxu]
          · rw [if_neg e]
            rcases List.mem_append.1 ht with ht | ht
            · exact h2 t ht
            · exact absurd (List.mem_singleton.1 ht) e
        · have hcl := hc u hu
          simp only [impl_Chains.l1, show (j : Int) < ((cat us u).length : Int) by omega, show (0 : Int) ≤ (j : Int) by omega, hrd, x0, hol, x1, if_true, w64s hj (show (cat us u).length ≤ 1000000000 by omega)]
    refine ev_at (inner 0 (by omega) o hol ho (fun t ht => by simp at ht)) (fun k => ?_)
    have e : rd_L3 us (u : Int) = cat us u := by unfold rd_L3 cat; rw [Int.toNat_natCast]
    simp only [impl_Chains.l0, show (u : Int) < (us.length : Int) by omega, show (0 : Int) ≤ (u : Int) by omega, if_true, e]
    rfl
theorem nodup_le : ∀ (A B : List Int), A.Nodup → (∀ x, x ∈ A → x ∈ B) → A.length ≤ B.length
  | [], B, _, _ => by simp
  | a :: A, B, hn, h => by
    have hn2 := List.nodup_cons.1 hn
    have ha := h a (by simp)
    have := nodup_le A (B.erase a) hn2.2 (fun x hx => (List.mem_erase_of_ne (fun e => hn2.1 (by rw [← e]; exact hx))).2 (h x (by simp [hx])))
    have h2 := List.length_erase_of_mem ha
    have h3 := List.length_pos_of_mem ha
    rw [List.length_cons]
    omega
theorem rel_small {n : Nat} {od : List Int} {us : List (List Int)} {out : List Int} (h : Rel n od us out) (hod : od.length = n) : us.length ≤ n ∧ ∀ u, u < us.length → (cat us u).length ≤ n := by
  refine ⟨?_, fun u hu => ?_⟩
  · -- the heads of the units are as many different tasks
    have hnd2 : ((List.range us.length).map fun u => lst (cat us u)).Nodup := by
      refine List.Pairwise.map _ (R := fun a b => a < us.length ∧ b < us.length ∧ a ≠ b) ?_ ?_
      · rintro a b ⟨ha, hb, hab⟩ e
        have h1 := (rel_mem_cat h a ha _).1 (lst_mem _ (h.ne a ha))
        have h2 := (rel_mem_cat h b hb _).1 (lst_mem _ (h.ne b hb))
        rw [e, h2.2] at h1
        omega
      · have := (List.nodup_range (n := us.length))
        refine List.Pairwise.imp_of_mem ?_ this
        intro a b ha hb hab
        exact ⟨List.mem_range.1 ha, List.mem_range.1 hb, hab⟩
    have hsub : ∀ x, x ∈ ((List.range us.length).map fun u => lst (cat us u)) → x ∈ od := by
      intro x hx
      obtain ⟨a, ha, rfl⟩ := List.mem_map.1 hx
      have ha := List.mem_range.1 ha
      exact ((rel_mem_cat h a ha _).1 (lst_mem _ (h.ne a ha))).1
    have := nodup_le _ _ hnd2 hsub
    rw [List.length_map, List.length_range] at this
    omega
  · rw [h.fil u hu]
    have := List.length_filter_le (fun t => un out t == (u : Int)) od
    omega
theorem order_all (l : List S25) (i : Nat) (h : i < l.length) : (i : Int) ∈ impl_byDep.l0 l := by
  rw [ord_map]
  exact List.mem_map.2 ⟨i, (ord_mem l i).2 h, rfl⟩
/-- The value of both. -/
theorem chains_both (l : List S25) (turn : Int) (h : l.length ≤ 1048576) : ∃ out : List Int, out.length ≤ 1048576 ∧ Ev (fun k => spec_Chains.f k l turn) out ∧ Ev (fun k => impl_Chains.f k l turn) out := by
  cases hl : tasksB l with
  | false =>
    refine ⟨[], by simp, ?_, ?_⟩
    · unfold spec_Chains.f
      have ht := spec_tasks l h
      rw [hl] at ht
      refine Ev.bind ht ?_
      simp only [Bool.false_eq_true, if_false]
      exact ev_some (fun k => by simp [spec_Chains.j0])
    · unfold impl_Chains.f
      have ht := impl_tasks l h
      rw [hl] at ht
      refine Ev.bind ht ?_
      simp only [Bool.false_eq_true, if_false]
      exact ev_some (fun k => by simp [impl_Chains.j0])
  | true =>
    obtain ⟨h40, hta⟩ := tasksB_parts hl
    cases htb : inB turn 0 120 with
    | false =>
      refine ⟨[], by simp, ?_, ?_⟩
      · unfold spec_Chains.f
        have ht := spec_tasks l h
        rw [hl] at ht
        refine Ev.bind ht ?_
        simp only [if_true, spec_l16Turn.f, l01In, htb, Option.bind_some, Bool.not_false]
        exact ev_some (fun k => by simp [spec_Chains.j0])
      · unfold impl_Chains.f
        have ht := impl_tasks l h
        rw [hl] at ht
        refine Ev.bind ht ?_
        simp only [if_true, turn_ok, htb, Option.bind_some, Bool.not_false]
        exact ev_some (fun k => by simp [impl_Chains.j0])
    | true =>
      have htu := inB_iff.1 htb
      obtain ⟨out, r1, r2⟩ := spec_chains l turn hl htu
      obtain ⟨f1, f2, f3⟩ := order_facts l
      obtain ⟨s1, s2⟩ := rel_small r1 f1
      have hol := r1.ol
      refine ⟨out, by omega, r2, ?_⟩
      unfold impl_Chains.f
      have ht := impl_tasks l h
      rw [hl] at ht
      refine Ev.bind ht ?_
      simp only [if_true, turn_ok, htb, Option.bind_some, Bool.not_true]
      have key := chains_loop r1 (order_all l) (by omega) (fun u hu => by have := s2 u hu; omega) 0 (by omega) (List.replicate l.length 0) (by simp) (fun t ht hlt => by have := (r1.ins t ht).1; omega)
      refine ev_at key (fun k => ?_)
      have e : impl_chains.f k l turn = some (units l turn) := by unfold impl_chains.f; rw [if_pos h40]; rfl
      simp [impl_Chains.j0, e, show l.length ≤ 35184372088832 by omega]
end Go.Proofs.Ytoalolbifakpiaa.Pure

/- One sale on a right train: what the law FnSeats asks of it, over lists and numbers alone. -/
import Derived.Test.YtklikbjlfaednaaPU
namespace Go.Proofs.Ytklikbjlfaednaa.Pure
open Go.RowKit Go.Proofs.Ytklikbjlfaednaa.P Go.Proofs.YtklikbjlfaednaaW.PrintWords Go.Proofs.YtklikbjlfaednaaW.PrintLast
set_option linter.unusedVariables false

/-- The hole of the seat that is picked is the least. -/
theorem best_least (h : Int → Int) : ∀ (fs : List Int) (b : Int), (∀ s, s ∈ fs → 0 ≤ s) → (0 ≤ b → h (bestV h fs b) ≤ h b) ∧ ∀ s, s ∈ fs → h (bestV h fs b) ≤ h s
  | [], b, _ => ⟨fun _ => Int.le_refl _, fun s hs => by simp at hs⟩
  | s :: t, b, hp => by
    have h0 := hp s List.mem_cons_self
    have ht : ∀ s, s ∈ t → 0 ≤ s := fun s hs => hp s (List.mem_cons_of_mem _ hs)
    unfold bestV
    by_cases c : b < 0 ∨ h s < h b
    · rw [if_pos c]
      obtain ⟨i1, i2⟩ := best_least h t s ht
      have i3 := i1 h0
      refine ⟨fun hb => ?_, fun x hx => ?_⟩
      · rcases c with c | c <;> omega
      · rcases List.mem_cons.1 hx with rfl | hx
        · exact i3
        · exact i2 x hx
    · rw [if_neg c]
      obtain ⟨i1, i2⟩ := best_least h t b ht
      refine ⟨i1, fun x hx => ?_⟩
      rcases List.mem_cons.1 hx with rfl | hx
      · have := i1 (by omega)
        omega
      · exact i2 x hx
theorem ins_del {l : List S66} {y : S66} (hp : l.Pairwise fun p q => p.f0 < q.f0) (hy : ∀ o, o ∈ l → o.f0 ≠ y.f0) : delV (insV l y) y.f0 = l := by
  rw [← put_ins y l hp hy]
  unfold impl_Book.l5 delV
  rw [List.filter_append, List.filter_cons, decide_eq_true rfl]
  simp only [Bool.not_true, Bool.false_eq_true, if_false]
  rw [← List.filter_append, List.take_append_drop]
  exact del_same hy
theorem ins_has (l : List S66) (y : S66) : hasId (insV l y) y.f0 = true := hasId_iff.2 ⟨y, by unfold insV; exact List.mem_append.2 (.inr List.mem_cons_self), rfl⟩
theorem free_nonneg {a b : Int} {l : List S66} {x y s : Int} (h : s ∈ freeV a b l x y) : 0 ≤ s := (mem_free.1 h).2.2.1.1
/-- A sale of a seat. -/
structure Sold (a b : Int) (l : List S66) (id x y : Int) (m : List S66) (r : Int) : Prop where
  right : TrainP a b m
  gone : 0 ≤ r → impl_Unbook.l0 m id = l ∧ 0 ≤ impl_Unbook.l1 m id
  free : 0 ≤ r → ((freeV a b l x y).any fun z => decide (z = r)) = true
  held : 0 ≤ r → ((freeV a b m x y).any fun z => decide (z = r)) = false
  least : 0 ≤ r → ∀ s, s ∈ freeV a b l x y → holeV a b l r x y ≤ holeV a b l s x y
  none : r < 0 → m = l
theorem sold {a b : Int} {l : List S66} (h : TrainP a b l) (id x y : Int) : Sold a b l id x y (impl_Book.l6 a b l id x y).1 (impl_Book.l6 a b l id x y).2 := by
  have ht := (train_iff a b l).2 h
  rw [sell_same ht]
  have hr := book_train h id x y
  by_cases c : bookOk a b l id x y = true ∧ 0 ≤ pickV a b l x y
  · have e : bookV a b l id x y = (insV l ⟨id, pickV a b l x y, x, y⟩, pickV a b l x y) := by unfold bookV; rw [if_pos c]
    rw [e] at hr ⊢
    have hid : hasId l id = false := by
      have := c.1
      unfold bookOk at this
      simp only [Bool.and_eq_true, Bool.not_eq_true'] at this
      exact this.2
    have hp := h.order.imp fun q => q.1
    have hf := pick_free c.2
    have hm := mem_free.1 hf
    have hd := rm_del id _ (hr.order.imp fun q => q.1)
    refine ⟨hr, fun _ => ?_, fun _ => ?_, fun _ => ?_, fun _ => (best_least (fun s => holeV a b l s x y) (freeV a b l x y) (-1) (fun s hs => free_nonneg hs)).2, fun hn => ?_⟩
    · refine ⟨hd.1.trans (ins_del (y := ⟨id, pickV a b l x y, x, y⟩) hp (hasId_no hid)), ?_⟩
      have := hd.2
      rw [ins_has l ⟨id, pickV a b l x y, x, y⟩] at this
      exact of_decide_eq_true this
    · rw [List.any_eq_true]
      exact ⟨_, hf, decide_eq_true rfl⟩
    · rw [List.any_eq_false]
      intro z hz he
      have he := of_decide_eq_true he
      subst he
      have hz := (mem_free.1 hz).2.2.2
      have hride := of_decide_eq_true hm.2.1
      have := hz x.toNat (by omega) (by omega)
      rw [List.any_eq_false] at this
      refine this ⟨id, pickV a b l x y, x, y⟩ (by unfold insV; exact List.mem_append.2 (.inr List.mem_cons_self)) ?_
      have h0 := c.2
      unfold impl_TrainOk.l4
      simp only [Bool.and_eq_true, decide_eq_true_eq]
      omega
    · have := c.2
      omega
  · have e : bookV a b l id x y = (l, -1) := by unfold bookV; rw [if_neg c]
    rw [e]
    exact ⟨h, fun hn => by simp at hn, fun hn => by simp at hn, fun hn => by simp at hn, fun hn => by simp at hn, fun _ => rfl⟩
theorem sold_f {a b : Int} {l : List S66} (h : TrainP a b l) (id x y : Int) : impl_Book.f a b l id x y = some (a, b, (impl_Book.l6 a b l id x y).1, (impl_Book.l6 a b l id x y).2) := by
  have hs := h.short
  unfold impl_Book.f
  rw [trains_same, (train_iff a b l).2 h, if_pos (by omega)]
  simp
theorem ok_f {a b : Int} {l : List S66} (h : TrainP a b l) : impl_TrainOk.f a b l = some true := by
  unfold impl_TrainOk.f
  rw [trains_same, (train_iff a b l).2 h]
/-- A booking given back. -/
structure Gone (a b : Int) (l : List S66) (id : Int) (m : List S66) (r : Bool) : Prop where
  right : TrainP a b m
  none : r = false → m = l
theorem gone {a b : Int} {l : List S66} (h : TrainP a b l) (id : Int) : Gone a b l id (impl_Unbook.l0 l id) (decide (0 ≤ impl_Unbook.l1 l id)) := by
  have hd := rm_del id l (h.order.imp fun q => q.1)
  refine ⟨by rw [hd.1]; exact h.del id, fun hn => ?_⟩
  rw [hd.2] at hn
  rw [hd.1, del_same (hasId_no hn)]
theorem gone_f {a b : Int} {l : List S66} (h : TrainP a b l) (id : Int) : impl_Unbook.f a b l id = some (a, b, impl_Unbook.l0 l id, decide (0 ≤ impl_Unbook.l1 l id)) := by
  have hs := h.short
  unfold impl_Unbook.f
  rw [trains_same, (train_iff a b l).2 h, if_pos (by omega)]
  simp
theorem within_ev (l : List Int) (v : Int) (h : l.length ≤ 1000000) : Ev (fun k => laws_within.f k l v) (l.any fun x => decide (x = v)) :=
  ev_any l (fun x => decide (x = v)) (fun k i => laws_within.l0 k l v i) (fun k => by simp [laws_within.l0])
    (fun k i hi hp => by
      have hp := of_decide_eq_true hp
      simp [laws_within.l0, hi, rd, hp])
    (fun k i hi hp => by
      have hp := of_decide_eq_false hp
      simp [laws_within.l0, hi, rd, hp, w64s hi (by omega)])
theorem same_ev (a b : Int) (l : List S66) (h : l.length ≤ 1048576) : Ev (fun k => laws_sameTrain.f k a b l a b l) true := by
  have key := ev_true l.length (fun k i => laws_sameTrain.l0 k i a b l a b l) (fun k => by simp [laws_sameTrain.l0]) (fun k i hi => by simp [laws_sameTrain.l0, hi, w64s hi (by omega)])
  unfold laws_sameTrain.f
  simp only [if_true]
  exact ev_at key (fun k => by simp [laws_sameTrain.j0])
theorem play_f {a b : Int} {l : List S66} (h : TrainP a b l) (ss : List S56) (hs : ss.length ≤ 200) : impl_PlaySales.f a b l ss = some (a, b, (impl_PlaySales.l1 a b ss l).1, (impl_PlaySales.l1 a b ss l).2) := by
  have hl := h.short
  unfold impl_PlaySales.f
  rw [trains_same, (train_iff a b l).2 h, if_pos (by omega), if_pos ⟨rfl, hs⟩]
theorem told_length {a b : Int} : ∀ (ss : List S56) (l : List S66), (impl_PlaySales.l1 a b ss l).2.length = ss.length
  | [], l => rfl
  | s :: t, l => by unfold impl_PlaySales.l1; rw [List.length_cons, told_length t, List.length_cons]
theorem play_step {a b : Int} {ss : List S56} {m fin : List S66} {tl : List Int} {i : Nat} (hi : i < ss.length) (h : impl_PlaySales.l1 a b (ss.drop i) m = (fin, tl.drop i)) :
    impl_PlaySales.l1 a b (ss.drop (i + 1)) (impl_PlaySales.l0 a b m (rd_T56 ss (i : Int))).1 = (fin, tl.drop (i + 1)) ∧ rd tl (i : Int) = (impl_PlaySales.l0 a b m (rd_T56 ss (i : Int))).2 := by
  have hd : ss.drop i = rd_T56 ss (i : Int) :: ss.drop (i + 1) := by
    rw [List.drop_eq_getElem_cons hi]
    simp [rd_T56, List.getD_eq_getElem?_getD, hi]
  obtain ⟨s, hs⟩ : ∃ s, rd_T56 ss (i : Int) = s := ⟨_, rfl⟩
  rw [hs] at hd ⊢
  rw [hd] at h
  unfold impl_PlaySales.l1 at h
  obtain ⟨h1, h2⟩ := Prod.mk.inj h
  have hlt : i < tl.length := by
    rcases Nat.lt_or_ge i tl.length with c | c
    · exact c
    · rw [List.drop_of_length_le c] at h2
      cases h2
  rw [List.drop_eq_getElem_cons hlt] at h2
  obtain ⟨h3, h4⟩ := List.cons.inj h2
  refine ⟨Prod.ext h1 h4, ?_⟩
  rw [h3]
  simp [rd, List.getD_eq_getElem?_getD, hlt]
end Go.Proofs.Ytklikbjlfaednaa.Pure

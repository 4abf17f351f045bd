/- A booking sold, by the reference; right trains stay right. -/
import Derived.Test.YtklikbjlfaednaaH2a
import Derived.Test.YtklikbjlfaednaaG7s
namespace Go.Proofs.Ytklikbjlfaednaa.Pure
open Go.RowKit Go.Proofs.Ytklikbjlfaednaa.P Go.Proofs.YtklikbjlfaednaaW.PrintWords Go.Proofs.YtklikbjlfaednaaW.PrintLast
set_option linter.unusedVariables false

/-- The seat whose hole is the least, the first of them. -/
def bestV (h : Int → Int) : List Int → Int → Int
  | [], best => best
  | s :: t, best => bestV h t (if best < 0 ∨ h s < h best then s else best)
theorem best_mem (h : Int → Int) : ∀ (fs : List Int) (best : Int), bestV h fs best = best ∨ bestV h fs best ∈ fs
  | [], best => .inl rfl
  | s :: t, best => by
    unfold bestV
    split
    · rcases best_mem h t s with e | e
      · right; rw [e]; exact List.mem_cons_self
      · right; exact List.mem_cons_of_mem _ e
    · rcases best_mem h t best with e | e
      · left; exact e
      · right; exact List.mem_cons_of_mem _ e
def bookOk (a b : Int) (l : List S66) (id x y : Int) : Bool := trainV a b l && rideB b x y && decide (0 < id) && decide (l.length < 200) && !(hasId l id)
def pickV (a b : Int) (l : List S66) (x y : Int) : Int := bestV (fun s => holeV a b l s x y) (freeV a b l x y) (-1)
def bookV (a b : Int) (l : List S66) (id x y : Int) : List S66 × Int :=
  if bookOk a b l id x y = true ∧ 0 ≤ pickV a b l x y then (insV l ⟨id, pickV a b l x y, x, y⟩, pickV a b l x y) else (l, -1)
theorem pick_free {a b : Int} {l : List S66} {x y : Int} (h : 0 ≤ pickV a b l x y) : pickV a b l x y ∈ freeV a b l x y := by
  unfold pickV at h ⊢
  rcases best_mem (fun s => holeV a b l s x y) (freeV a b l x y) (-1) with e | e
  · omega
  · exact e
theorem mem_free {a b : Int} {l : List S66} {x y s : Int} : s ∈ freeV a b l x y ↔ trainV a b l = true ∧ rideB b x y = true ∧ (0 ≤ s ∧ s < a) ∧ ∀ p : Nat, x ≤ p → (p : Int) < y → l.any (impl_TrainOk.l4 s.toNat p) = false := by
  unfold freeV
  by_cases hc : (trainV a b l && rideB b x y) = true
  · rw [if_pos hc]
    rw [Bool.and_eq_true] at hc
    have hr := of_decide_eq_true hc.2
    unfold impl_Train_freeSeats.l1
    rw [List.mem_map]
    constructor
    · rintro ⟨q, hq, rfl⟩
      have hq := List.mem_filter.1 hq
      have h1 := List.mem_range.1 hq.1
      refine ⟨hc.1, hc.2, ⟨by omega, by omega⟩, fun p hp1 hp2 => ?_⟩
      have h2 := hq.2
      simp only [Bool.not_eq_true', impl_Train_freeSeats.l0, List.any_eq_false, Bool.not_eq_true, List.mem_range'_1] at h2
      rw [Int.toNat_natCast, List.any_eq_false]
      intro o ho
      rw [Bool.not_eq_true]
      exact h2 p (by omega) o ho
    · rintro ⟨_, _, hs, hp⟩
      refine ⟨s.toNat, List.mem_filter.2 ⟨List.mem_range.2 (by omega), ?_⟩, by omega⟩
      simp only [Bool.not_eq_true', impl_Train_freeSeats.l0, List.any_eq_false, Bool.not_eq_true, List.mem_range'_1]
      intro p hp2 o ho
      have := hp p (by omega) (by omega)
      rw [List.any_eq_false] at this
      simpa using this o ho
  · rw [if_neg hc]
    constructor
    · intro h; cases h
    · rintro ⟨h1, h2, _⟩; exact absurd (by rw [h1, h2]; rfl) hc
theorem free_no_clash {a b : Int} {l : List S66} {x y s : Int} (h : s ∈ freeV a b l x y) (id : Int) : ∀ o, o ∈ l → impl_TrainOk.l3 ⟨id, s, x, y⟩ o = false := fun o ho => by
  obtain ⟨ht, hr, hs, hp⟩ := mem_free.1 h
  have hr := of_decide_eq_true hr
  have e := ((train_iff a b l).1 ht).each o ho
  cases hc : impl_TrainOk.l3 ⟨id, s, x, y⟩ o with
  | false => rfl
  | true =>
    unfold impl_TrainOk.l3 at hc
    simp only [Bool.and_eq_true, decide_eq_true_eq] at hc
    obtain ⟨p, hpp⟩ : ∃ p : Nat, (p : Int) = max o.f2 x := ⟨(max o.f2 x).toNat, by omega⟩
    have := hp p (by omega) (by omega)
    rw [List.any_eq_false] at this
    refine absurd ?_ (this o ho)
    unfold impl_TrainOk.l4
    simp only [Bool.and_eq_true, decide_eq_true_eq]
    omega
theorem book_train {a b : Int} {l : List S66} (h : TrainP a b l) (id x y : Int) : TrainP a b (bookV a b l id x y).1 := by
  unfold bookV
  split
  · rename_i hc
    obtain ⟨h1, h2⟩ := hc
    have hm := pick_free h2
    have hf := mem_free.1 hm
    unfold bookOk at h1
    simp only [Bool.and_eq_true, decide_eq_true_eq] at h1
    have hr := of_decide_eq_true hf.2.1
    exact h.ins _ h1.1.2 h1.1.1.2 hf.2.2.1 hr (free_no_clash hm id)
  · exact h
theorem TrainP.pos {a b : Int} {l : List S66} (h : TrainP a b l) : ∀ o, o ∈ l → o.f0 ≠ 0 := fun o ho => by have := (h.each o ho).1; omega
theorem spec_best (a b : Int) (l : List S66) (id x y : Int) (h : l.length ≤ 1048576) (fs : List Int) (hl : fs.length ≤ 1000) (R : Int → Int × Int × List S66 × Int) (hR : ∀ best, Ev (fun k => spec_Book.l1 k id x y fs best (fs.length : Int) a b l a b l) (R best)) :
    ∀ i, i ≤ fs.length → ∀ best : Int, Ev (fun k => spec_Book.l1 k id x y fs best (i : Int) a b l a b l) (R (bestV (fun s => holeV a b l s x y) (fs.drop i) best)) := by
  refine down fs.length ?_ ?_
  · intro best
    rw [List.drop_length]
    exact hR best
  · intro i hi ih best
    have f1 : (i : Int) < fs.length := by omega
    have f2 : (0 : Int) ≤ i := by omega
    have hw := w64s hi (by omega)
    rw [drop_getD 0 fs i hi]
    have e : rd fs (i : Int) = fs.getD i 0 := by simp [rd]
    obtain ⟨s, hs⟩ : ∃ s, fs.getD i 0 = s := ⟨_, rfl⟩
    rw [hs] at e ⊢
    unfold bestV
    by_cases c : best < 0
    · rw [if_pos (Or.inl c)]
      refine ev_at (ih s) (fun k => ?_)
      simp only [spec_Book.l1, if_pos f1, if_pos c, if_pos f2, e, hw]
    · refine ev_at (f := fun k => (spec_Hole.f k a b l s x y).bind fun t234 => (spec_Hole.f k a b l best x y).bind fun t235 => if t234 < t235 then spec_Book.l1 k id x y fs s ((i + 1 : Nat) : Int) a b l a b l else spec_Book.l1 k id x y fs best ((i + 1 : Nat) : Int) a b l a b l) ?_ (fun k => ?_)
      · refine Ev.bind (spec_holeV a b l s x y h) (Ev.bind (spec_holeV a b l best x y h) ?_)
        by_cases d : holeV a b l s x y < holeV a b l best x y
        · simp only [if_pos d, if_pos (Or.inr d : best < 0 ∨ _)]; exact ih s
        · simp only [if_neg d, if_neg (show ¬ (best < 0 ∨ holeV a b l s x y < holeV a b l best x y) by omega)]; exact ih best
      · simp only [spec_Book.l1, if_pos f1, if_neg c, if_pos f2, e, hw]
theorem spec_book (a b : Int) (l : List S66) (id x y : Int) (h : l.length ≤ 1048576) : Ev (fun k => spec_Book.f k a b l id x y) (a, b, (bookV a b l id x y).1, (bookV a b l id x y).2) := by
  unfold spec_Book.f
  have hh := spec_held a b l 0 z66 h
  rw [show (z66.f0 == 0) = true from rfl, held_true] at hh
  refine Ev.bind hh (Ev.bind (spec_asked a b l x y h) ?_)
  have same : ∀ m, Ev (fun k => spec_Book.j0 k id x y true a b l a b m) (a, b, l, -1) := fun m => by
    refine ev_at (ev_then (spec_same a b l h) fun bt => (bt.1, bt.2.1, bt.2.2, (-1 : Int))) (fun k => ?_)
    simp only [spec_Book.j0, if_true]
  cases ha : (trainV a b l && rideB b x y) with
  | false =>
    have hb : bookV a b l id x y = (l, -1) := by
      unfold bookV bookOk
      rw [ha]
      simp
    rw [hb]
    simpa using same _
  | true =>
    rw [Bool.and_eq_true] at ha
    have ht := (train_iff a b l).1 ha.1
    have hl := ht.short
    rw [del_same ht.pos]
    simp only [if_true]
    by_cases c1 : id ≤ 0
    · have hb : bookV a b l id x y = (l, -1) := by
        unfold bookV bookOk
        rw [decide_eq_false (show ¬ 0 < id by omega)]
        simp
      rw [hb]
      simp only [if_pos c1]
      exact same _
    · simp only [if_neg c1]
      by_cases c2 : (l.length : Int) ≥ 200
      · have hb : bookV a b l id x y = (l, -1) := by
          unfold bookV bookOk
          rw [decide_eq_false (show ¬ l.length < 200 by omega)]
          simp
        rw [hb]
        simp only [decide_eq_true c2]
        exact same _
      · simp only [decide_eq_false c2]
        have key : ∀ i, i ≤ l.length → (∀ o, o ∈ l.take i → o.f0 ≠ id) → Ev (fun k => spec_Book.l0 k id x y (i : Int) a b l a b l) (a, b, (bookV a b l id x y).1, (bookV a b l id x y).2) := by
          refine down l.length ?_ ?_
          · intro hn
            rw [List.take_length] at hn
            have e : hasId l id = false := by
              cases hh : hasId l id with
              | false => rfl
              | true => obtain ⟨o, ho, e⟩ := hasId_iff.1 hh; exact absurd e (hn o ho)
            have ok : bookOk a b l id x y = true := by
              unfold bookOk
              rw [ha.1, ha.2, e, decide_eq_true (show 0 < id by omega), decide_eq_true (show l.length < 200 by omega)]
              rfl
            have hs := free_short a b l x y
            refine ev_at (f := fun k => (spec_FreeSeats.f k a b l x y).bind fun t224 => spec_Book.l1 k id x y t224 (-1) 0 a b l a b l) (Ev.bind (spec_free a b l x y h) ?_) (fun k => by simp only [spec_Book.l0, if_neg (Int.lt_irrefl _)])
            have := spec_best a b l id x y h (freeV a b l x y) (by omega) (fun best => if 0 ≤ best then (a, b, insV l ⟨id, best, x, y⟩, best) else (a, b, l, -1)) (fun best => ?_) 0 (Nat.zero_le _) (-1)
            · rw [List.drop_zero] at this
              unfold bookV
              rw [show bestV (fun s => holeV a b l s x y) (freeV a b l x y) (-1) = pickV a b l x y from rfl] at this
              by_cases c : 0 ≤ pickV a b l x y
              · rw [if_pos ⟨ok, c⟩]; rw [if_pos c] at this; exact this
              · rw [if_neg (fun q => c q.2)]; rw [if_neg c] at this; exact this
            · by_cases c : best < 0
              · rw [if_neg (by omega)]
                refine ev_some (fun k => ?_)
                simp only [spec_Book.l1, if_neg (Int.lt_irrefl _), if_pos c]
              · rw [if_pos (by omega)]
                have hy := spec_held a b l 0 ⟨id, best, x, y⟩ h
                have e0 : ((⟨id, best, x, y⟩ : S66).f0 == 0) = false := by
                  show (id == 0) = false
                  simp; omega
                rw [e0, held_ins _ l (ht.order.imp fun q => q.1) ht.pos (fun o ho => hn o ho)] at hy
                refine ev_at (ev_then hy fun bt => (bt.1, bt.2.1, bt.2.2, best)) (fun k => ?_)
                simp only [spec_Book.l1, if_neg (Int.lt_irrefl _), if_neg c]
          · intro i hi ih hn
            have f1 : (i : Int) < l.length := by omega
            have f2 : (0 : Int) ≤ i := by omega
            have hw := w64s hi (by omega)
            by_cases d : (rd_T66 l (i : Int)).f0 = id
            · have e : hasId l id = true := hasId_iff.2 ⟨l[i], List.getElem_mem hi, by rw [← rd_get l i hi]; exact d⟩
              have hb : bookV a b l id x y = (l, -1) := by
                unfold bookV bookOk
                rw [e]
                simp
              rw [hb]
              refine ev_some (fun k => ?_)
              simp only [spec_Book.l0, if_pos f1, if_pos f2, if_pos d]
            · refine ev_at (ih ?_) (fun k => ?_)
              · intro o ho
                rw [List.take_succ_eq_append_getElem hi] at ho
                rcases List.mem_append.1 ho with ho | ho
                · exact hn o ho
                · rw [List.mem_singleton.1 ho, ← rd_get l i hi]; exact d
              · simp only [spec_Book.l0, if_pos f1, if_pos f2, if_neg d, hw]
        refine ev_at (key 0 (Nat.zero_le _) (fun o ho => by simp at ho)) (fun k => ?_)
        simp [spec_Book.j0]
end Go.Proofs.Ytklikbjlfaednaa.Pure

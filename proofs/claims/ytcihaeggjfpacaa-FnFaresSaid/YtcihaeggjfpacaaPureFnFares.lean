/- The law FnFares, over lists and numbers alone: there and back cost the same, a longer ride no less, cards never make it dearer. -/
import Derived.Test.YtcihaeggjfpacaaA7
namespace Go.Proofs.Ytcihaeggjfpacaa.Pure
open Go.RowKit Go.Proofs.Ytcihaeggjfpacaa.P Go.Proofs.YtcihaeggjfpacaaW.PrintWords Go.Proofs.YtcihaeggjfpacaaW.PrintLast

theorem FnFares : laws_FnFares.Pure := by
  intro l hl0 _ hw
  refine Ev.rounds ?_
  unfold laws_FnFares.f
  by_cases hbig : (l.length : Int) > 1048576
  · simp only [big_true hbig, Option.bind_some, if_true]
    exact Ev.now true
  have hl : l.length ≤ 1048576 := by omega
  simp only [big_false hbig, Option.bind_some, Bool.false_eq_true, if_false]
  refine evp_true (evp_bind (draw_tariff l hl) (fun x hx => ?_))
  obtain ⟨b, s, j, r, cards, stops, minute⟩ := x
  obtain ⟨ht, hc, _, hm0, hm1⟩ := hx
  simp only at ht hc hm0 hm1 ⊢
  obtain ⟨v3, e3, h30, h31⟩ := at_byte l hl hw 3 (by omega) (by omega)
  obtain ⟨v4, e4, h40, h41⟩ := at_byte l hl hw 4 (by omega) (by omega)
  obtain ⟨v5, e5, h50, h51⟩ := at_byte l hl hw 5 (by omega) (by omega)
  simp only [e3, e4, Option.bind_some, tmod_pos h30, tmod_pos h40]
  obtain ⟨x, hx⟩ : ∃ x, x = v3 % 20 := ⟨_, rfl⟩
  obtain ⟨y, hy⟩ : ∃ y, y = v4 % 20 := ⟨_, rfl⟩
  rw [← hx, ← hy]
  have hx' : 0 ≤ x ∧ x ≤ 19 := by omega
  have hy' : 0 ≤ y ∧ y ≤ 19 := by omega
  obtain ⟨hb, hs, hjl, hr, hj⟩ := tariffOk_parts ht
  have hj' : j.length ≤ 1048576 := by omega
  obtain ⟨hcs, hcl⟩ := cardsOk_parts hc
  have hcl' : cards.length ≤ 1048576 := by omega
  obtain ⟨fare, hf⟩ : ∃ f, f = fareV b s j r x y := ⟨_, rfl⟩
  have hfb : 0 ≤ fare ∧ fare ≤ 4000100 := by rw [hf, fareV_ok ht hx' hy']; exact fareV0_bounds ht (by omega) (by omega)
  have hfm : fare % r = 0 := by rw [hf, fareV_ok ht hx' hy']; exact roundUp_mod _ _
  have hfare : Ev (fun k => impl_Fare.f k b s j r x y) fare := by rw [hf]; exact impl_fare_all b s j r x y hj'
  have hback : Ev (fun k => impl_Fare.f k b s j r y x) fare := by rw [hf, fareV_swap]; exact impl_fare_all b s j r y x hj'
  have hspec : Ev (fun k => spec_Fare.f k b s j r x y) fare := by rw [hf]; exact spec_fare_all b s j r x y hj'
  have hp : 0 ≤ fare ∧ fare ≤ 10000000 := by omega
  have hmin : 0 ≤ minute ∧ minute ≤ 100000 := by omega
  have carded : ∀ cs : List S57, cardsOk cs = true → cs.length ≤ 6 → Ev (fun k => impl_Carded.f k b s j r fare cs minute) (cardedV0 r fare cs minute) := fun cs h h6 => by
    rw [← cardedV_ok ht h hp hmin]
    exact impl_carded_all b s j r fare cs minute hj' (by omega)
  obtain ⟨all, hall⟩ : ∃ a, a = cardedV0 r fare cards minute := ⟨_, rfl⟩
  have hal : all ≤ fare := by rw [hall]; exact cards_le _ _ _ _ _
  have hal0 : 0 ≤ all := by rw [hall]; exact cards_pos _ _ _ _ hcs _ hp.1
  have refund : ∀ hours : Int, Ev (fun k => impl_Refund.f k b s j r fare hours) (backOf fare hours / r * r) := fun hours => by
    rw [← refundV_ok ht hp]
    exact impl_refund b s j r fare hours hj'
  -- behind the cards one by one
  have last : Ev (fun k => laws_FnFares.l0 k l cards minute fare all 0 b s j r) true := by
    have key : ∀ i, i ≤ cards.length → Ev (fun k => laws_FnFares.l0 k l cards minute fare all i b s j r) true := by
      refine down cards.length ?_ (fun i hi ih => ?_)
      · refine ev_at (f := fun k => (laws_at.f l 5).bind fun t => (impl_Refund.f k b s j r fare t).bind fun u => if u ≥ 0 then if u ≤ fare then if r = 0 then none else if Int.tmod u r = 0 then (impl_Refund.f k b s j r fare 72).bind fun v => if v = fare then (impl_Refund.f k b s j r fare 0).bind fun z => some (z == 0) else some false else some false else some false else some false) ?_ (fun k => by simp [laws_FnFares.l0])
        simp only [e5, Option.bind_some]
        have hb5 := backOf_le hp.1 v5
        have hr5 := round_le hb5.1 hr.1
        refine Ev.bind (refund v5) ?_
        simp only [show backOf fare v5 / r * r ≥ 0 by omega, show backOf fare v5 / r * r ≤ fare by omega, show ¬ r = 0 by omega, if_true, if_false, tmod_pos hr5.1, Int.mul_emod_left]
        refine Ev.bind (refund 72) ?_
        simp only [show backOf fare 72 / r * r = fare by rw [show backOf fare 72 = fare by simp [backOf]]; exact mul_round hfm, if_true]
        refine Ev.bind (refund 0) ?_
        simpa [backOf] using Ev.now true
      · have hone : cardsOk [cards[i]] = true := by simp only [cardsOk, List.all_cons, List.all_nil, hcs cards[i] (List.getElem_mem _), List.length_singleton, Bool.and_self]; rfl
        have hsl : (cards.take (i + 1)).drop i = [cards[i]] := by
          rw [List.take_succ_eq_append_getElem hi]
          exact List.drop_left' (by rw [List.length_take]; exact Nat.min_eq_left (Nat.le_of_lt hi))
        have hle : cardedV0 r fare [cards[i]] minute ≤ fare := cards_le _ _ _ _ _
        have hge : all ≤ cardedV0 r fare [cards[i]] minute := by rw [hall]; exact cards_each _ _ _ _ _ _ (List.getElem_mem _)
        have hw := w64s hi (by omega)
        refine ev_at (f := fun k => (impl_Carded.f k b s j r fare [cards[i]] minute).bind fun t => if t < all then some false else if t > fare then some false else laws_FnFares.l0 k l cards minute fare all ((i + 1 : Nat) : Int) b s j r) ?_ (fun k => ?_)
        · refine Ev.bind (carded _ hone (by simp)) ?_
          simp only [show ¬ cardedV0 r fare [cards[i]] minute < all by omega, show ¬ cardedV0 r fare [cards[i]] minute > fare by omega, if_false]
          exact ih
        · simp only [laws_FnFares.l0, hw]
          rw [if_pos (Int.ofNat_lt.2 hi), if_pos (Int.natCast_nonneg i), if_pos (Int.ofNat_le.2 (Nat.le_succ i)), if_pos (Int.ofNat_le.2 hi)]
          simp only [Int.toNat_natCast, hsl]
    exact key 0 (Nat.zero_le _)
  have j2 : Ev (fun k => laws_FnFares.j2 k l cards minute fare all false b s j r) true := ev_at last (fun k => by simp [laws_FnFares.j2])
  have j1 : Ev (fun k => laws_FnFares.j1 k l cards minute fare false b s j r) true := by
    refine ev_at (f := fun k => (impl_Carded.f k b s j r fare cards minute).bind fun t => if t > fare then laws_FnFares.j2 k l cards minute fare t true b s j r else if t < 0 then laws_FnFares.j2 k l cards minute fare t true b s j r else (impl_Carded.f k b s j r fare [] minute).bind fun u => if u = fare then (impl_CardsOk.f k cards).bind fun z => laws_FnFares.j2 k l cards minute fare t (!z) b s j r else laws_FnFares.j2 k l cards minute fare t true b s j r) ?_ (fun k => by simp [laws_FnFares.j1])
    refine Ev.bind (carded cards hc hcl) ?_
    rw [← hall]
    simp only [show ¬ all > fare by omega, show ¬ all < 0 by omega, if_false]
    refine Ev.bind (carded [] (by simp [cardsOk]) (by simp)) ?_
    simp only [cardedV0, List.foldl_nil, if_true]
    refine Ev.bind (impl_cards cards hcl') ?_
    rw [hc]
    exact j2
  have j0 : Ev (fun k => laws_FnFares.j0 k l cards minute x y fare false b s j r) true := by
    by_cases hxy : x ≤ y
    · by_cases hy20 : wrap64 (y + 1) < 20
      · refine ev_at (f := fun k => (impl_Fare.f k b s j r x (wrap64 (y + 1))).bind fun t => laws_FnFares.j1 k l cards minute fare (decide (t < fare)) b s j r) ?_ (fun k => by simp [laws_FnFares.j0, hxy, hy20])
        rw [w64 (by omega) (by omega)] at hy20 ⊢
        refine Ev.bind (impl_fare_all b s j r x (y + 1) hj') ?_
        have hmono : fare ≤ fareV b s j r x (y + 1) := by
          rw [hf, fareV_ok ht hx' hy', fareV_ok ht hx' (by omega), show min x y = x by omega, show max x y = y by omega, show min x (y + 1) = x by omega, show max x (y + 1) = y + 1 by omega]
          exact fareV0_mono ht
        simp only [show ¬ fareV b s j r x (y + 1) < fare by omega, decide_false]
        exact j1
      · exact ev_at j1 (fun k => by simp [laws_FnFares.j0, hxy, hy20])
    · exact ev_at j1 (fun k => by simp [laws_FnFares.j0, hxy])
  refine evp_bind (evp_of hfare (Q := fun z => z = fare) rfl) (fun z hz => ?_)
  subst hz
  simp only [show ¬ z < 0 by omega, if_false]
  refine evp_bind (evp_of hback (Q := fun w => w = z) rfl) (fun w hw2 => ?_)
  subst hw2
  simp only [if_true, show ¬ r = 0 by omega, if_false, tmod_pos hp.1, hfm]
  refine evp_bind (evp_of hspec (Q := fun u => u = w) rfl) (fun u hu => ?_)
  subst hu
  simp only [bne_self_eq_false]
  exact evp_of j0 rfl
end Go.Proofs.Ytcihaeggjfpacaa.Pure

/- The law FnSpread, over lists and numbers alone: the seats told are free piece by piece; one is enough just when one is free for all; where none are told, some piece has none free. -/
import Derived.Test.YtklikbjlfaednaaH3
import Derived.Test.YtklikbjlfaednaaG9
namespace Go.Proofs.Ytklikbjlfaednaa.Pure
open Go.RowKit Go.Proofs.Ytklikbjlfaednaa.P Go.Proofs.YtklikbjlfaednaaW.PrintWords Go.Proofs.YtklikbjlfaednaaW.PrintLast
set_option linter.unusedVariables false

theorem run_spec (l : List S66) (s : Nat) : ∀ d p, impl_Spread.l0 l s d p ≤ d ∧ (∀ q, p ≤ q → q < p + impl_Spread.l0 l s d p → l.any (impl_TrainOk.l4 s q) = false) ∧ (impl_Spread.l0 l s d p < d → l.any (impl_TrainOk.l4 s (p + impl_Spread.l0 l s d p)) = true)
  | 0, p => ⟨Nat.le_refl _, fun q h1 h2 => by simp only [impl_Spread.l0] at h2; omega, fun h => by simp [impl_Spread.l0] at h⟩
  | d + 1, p => by
    obtain ⟨h1, h2, h3⟩ := run_spec l s d (p + 1)
    unfold impl_Spread.l0
    by_cases c : l.any (impl_TrainOk.l4 s p) = true
    · rw [if_pos c]
      exact ⟨by omega, fun q q1 q2 => by omega, fun _ => by rw [Nat.add_zero]; exact c⟩
    · rw [if_neg c]
      refine ⟨by omega, fun q q1 q2 => ?_, fun h => ?_⟩
      · by_cases e : q = p
        · rw [e]; exact Bool.eq_false_iff.2 c
        · exact h2 q (by omega) (by omega)
      · have := h3 (by omega)
        rwa [show p + (impl_Spread.l0 l s d (p + 1) + 1) = p + 1 + impl_Spread.l0 l s d (p + 1) by omega]
theorem most_spec (l : List S66) (p off : Nat) : ∀ n, (∀ s, s < n → impl_Spread.l0 l s (off - p) p ≤ (impl_Spread.l1 l p off n).2) ∧ ((impl_Spread.l1 l p off n).2 = 0 ∨ (impl_Spread.l1 l p off n).1 < n ∧ (impl_Spread.l1 l p off n).2 = impl_Spread.l0 l (impl_Spread.l1 l p off n).1 (off - p) p)
  | 0 => ⟨fun s h => by omega, .inl rfl⟩
  | n + 1 => by
    obtain ⟨h1, h2⟩ := most_spec l p off n
    unfold impl_Spread.l1
    split
    · rename_i c
      refine ⟨fun s hs => ?_, .inr ⟨Nat.lt_succ_self n, rfl⟩⟩
      by_cases e : s = n
      · rw [e]; exact Nat.le_refl _
      · have := h1 s (by omega); show _ ≤ impl_Spread.l0 l n (off - p) p; omega
    · rename_i c
      refine ⟨fun s hs => ?_, ?_⟩
      · by_cases e : s = n
        · rw [e]; omega
        · exact h1 s (by omega)
      · rcases h2 with h2 | ⟨h2, h3⟩
        · exact .inl h2
        · exact .inr ⟨by omega, h3⟩
/-- The seats told: none, where some piece has none; else free ones, piece by piece. -/
theorem spread_spec (l : List S66) (n off : Nat) : ∀ (k p : Nat) (acc : List Int), off - p ≤ k → p ≤ off →
    (impl_Spread.l2 l n off k p acc = [] ∧ ∃ q, p ≤ q ∧ q < off ∧ ∀ s, s < n → l.any (impl_TrainOk.l4 s q) = true) ∨
    ∃ suf : List Int, impl_Spread.l2 l n off k p acc = acc ++ suf ∧ suf.length = off - p ∧ ∀ i, (hi : i < suf.length) → ∃ s : Nat, s < n ∧ suf[i] = (s : Int) ∧ l.any (impl_TrainOk.l4 s (p + i)) = false
  | 0, p, acc, h1, h2 => .inr ⟨[], by rw [impl_Spread.l2, List.append_nil], by simp; omega, fun i hi => by simp at hi⟩
  | k + 1, p, acc, h1, h2 => by
    rw [impl_Spread.l2]
    by_cases c : p < off
    · rw [if_pos c]
      obtain ⟨m1, m2⟩ := most_spec l p off n
      by_cases z : (impl_Spread.l1 l p off n).2 = 0
      · rw [if_pos z]
        refine .inl ⟨rfl, p, Nat.le_refl _, c, fun s hs => ?_⟩
        have h3 := (run_spec l s (off - p) p).2.2
        have h4 := m1 s hs
        rw [z] at h4
        have h5 : impl_Spread.l0 l s (off - p) p = 0 := by omega
        rw [h5] at h3
        exact h3 (by omega)
      · rw [if_neg z]
        rcases m2 with m2 | ⟨m2, m3⟩
        · exact absurd m2 z
        obtain ⟨b, hb⟩ : ∃ b, (impl_Spread.l1 l p off n).1 = b := ⟨_, rfl⟩
        obtain ⟨m, hm⟩ : ∃ m, (impl_Spread.l1 l p off n).2 = m := ⟨_, rfl⟩
        rw [hb] at m2 m3
        rw [hm] at m3 z
        rw [hb, hm]
        have hr := run_spec l b (off - p) p
        rw [← m3] at hr
        rcases spread_spec l n off k (p + m) (acc ++ List.replicate m (b : Int)) (by omega) (by omega) with ⟨r1, q, r2, r3, r4⟩ | ⟨suf, r1, r2, r3⟩
        · exact .inl ⟨r1, q, by omega, r3, r4⟩
        · refine .inr ⟨List.replicate m (b : Int) ++ suf, by rw [r1, List.append_assoc], by rw [List.length_append, List.length_replicate, r2]; omega, fun i hi => ?_⟩
          by_cases e : i < m
          · refine ⟨b, m2, ?_, hr.2.1 _ (by omega) (by omega)⟩
            rw [List.getElem_append_left (by simpa using e), List.getElem_replicate]
          · have hi2 : i - m < suf.length := by rw [List.length_append, List.length_replicate] at hi; omega
            obtain ⟨s, s1, s2, s3⟩ := r3 (i - m) hi2
            refine ⟨s, s1, ?_, by rwa [show p + m + (i - m) = p + i by omega] at s3⟩
            rw [List.getElem_append_right (by simpa using Nat.not_lt.1 e)]
            simpa using s2
    · rw [if_neg c]
      exact .inr ⟨[], by rw [List.append_nil], by simp; omega, fun i hi => by simp at hi⟩
theorem l2_done (l : List S66) (n off : Nat) : ∀ k acc, impl_Spread.l2 l n off k off acc = acc
  | 0, _ => rfl
  | k + 1, acc => by rw [impl_Spread.l2, if_neg (Nat.lt_irrefl _)]
theorem spread_one (l : List S66) (n off k p s : Nat) (hs : s < n) (hp : p < off) (h : impl_Spread.l0 l s (off - p) p = off - p) : ∃ b : Int, impl_Spread.l2 l n off (k + 1) p [] = List.replicate (off - p) b := by
  obtain ⟨m1, m2⟩ := most_spec l p off n
  have h1 := m1 s hs
  have h2 := sp1_le l p off n
  have e : (impl_Spread.l1 l p off n).2 = off - p := by omega
  refine ⟨((impl_Spread.l1 l p off n).1 : Int), ?_⟩
  rw [impl_Spread.l2, if_pos hp, e, if_neg (by omega), show p + (off - p) = off by omega, l2_done, List.nil_append]
theorem run_full (l : List S66) (s : Nat) : ∀ d p, (∀ q, p ≤ q → q < p + d → l.any (impl_TrainOk.l4 s q) = false) → impl_Spread.l0 l s d p = d
  | 0, p, _ => rfl
  | d + 1, p, h => by
    rw [impl_Spread.l0, if_neg (by rw [h p (Nat.le_refl _) (by omega)]; simp), run_full l s d (p + 1) (fun q q1 q2 => h q (by omega) (by omega))]
theorem withinV (l : List Int) (v : Int) (h : l.length ≤ 1000000) : Ev (fun k => laws_within.f k l v) (l.any fun x => decide (x = v)) :=
  ev_any l (fun x => decide (x = v)) (fun k i => laws_within.l0 k l v i) (fun k => by simp [laws_within.l0])
    (fun k i hi hp => by
      have hp := of_decide_eq_true hp
      simp [laws_within.l0, hi, rd, hp])
    (fun k i hi hp => by
      have hp := of_decide_eq_false hp
      simp [laws_within.l0, hi, rd, hp, w64s hi (by omega)])
theorem same_ints (l : List Int) (h : l.length ≤ 1000000) : Ev (fun k => laws_sameInts.f k l l) true := by
  unfold laws_sameInts.f
  simp only [if_true]
  exact ev_true l.length (fun k i => laws_sameInts.l0 k l l i) (fun k => by simp [laws_sameInts.l0]) (fun k i hi => by simp [laws_sameInts.l0, hi, w64s hi (by omega)])
theorem FnSpread : laws_FnSpread.Pure := by
  intro l0 hm _ hw
  refine Ev.rounds ?_
  unfold laws_FnSpread.f
  by_cases hbig : (l0.length : Int) > 1048576
  · rw [big_true hbig]
    simpa using Ev.now true
  · rw [big_false hbig]
    simp only [Option.bind_some, Bool.false_eq_true, if_false]
    have hl : l0.length ≤ 1048576 := by omega
    refine evp_true (evp_bind (draw_train l0 hl) (fun r hr => ?_))
    obtain ⟨a, b, l, ss⟩ := r
    have hr : TrainP a b l := hr
    obtain ⟨v3, e3, g30, g31⟩ := at_byte l0 hl hw 3 (by omega) (by omega)
    obtain ⟨v4, e4, g40, g41⟩ := at_byte l0 hl hw 4 (by omega) (by omega)
    have hP := hr.pieces
    have hS := hr.seats
    have ht := (train_iff a b l).2 hr
    simp only [e3, e4, Option.bind_some, if_neg (show ¬ b = 0 by omega)]
    obtain ⟨on, hon⟩ : ∃ x, Int.tmod v3 b = x := ⟨_, rfl⟩
    have hon1 : 0 ≤ on ∧ on < b := by
      rw [← hon, Int.tmod_eq_emod_of_nonneg g30]
      exact ⟨Int.emod_nonneg _ (by omega), Int.emod_lt_of_pos _ (by omega)⟩
    simp only [hon]
    have w1 : wrap64 (b - on) = b - on := w64 (by omega) (by omega)
    have w1n : ¬ b - on = 0 := by clear w1; omega
    simp only [w1, if_neg w1n]
    obtain ⟨len, hlen⟩ : ∃ x, Int.tmod v4 (b - on) = x := ⟨_, rfl⟩
    have hlen1 : 0 ≤ len ∧ len < b - on := by
      rw [← hlen, Int.tmod_eq_emod_of_nonneg g40]
      exact ⟨Int.emod_nonneg _ (by clear w1; omega), Int.emod_lt_of_pos _ (by clear w1; omega)⟩
    simp only [hlen]
    clear w1
    have w2 : wrap64 (on + 1) = on + 1 := w64 (by omega) (by omega)
    have w3 : wrap64 (on + 1 + len) = on + 1 + len := w64 (by clear w2; omega) (by clear w2; omega)
    simp only [w2, w3]
    clear w2 w3
    obtain ⟨off, hoff⟩ : ∃ off, on + 1 + len = off := ⟨_, rfl⟩
    simp only [hoff]
    have hoo : 0 ≤ on ∧ on < off ∧ off ≤ b := by omega
    have w4 : wrap64 (off - on) = off - on := w64 (by omega) (by omega)
    simp only [w4]
    clear w4 hlen hon e3 e4 hoff hlen1 hon1
    have hride : rideB b on off = true := decide_eq_true hoo
    simp only [impl_spread, Option.bind_some]
    have hls : l.length ≤ 1048576 := Nat.le_trans hr.short (by omega)
    have hshort := spread_short a b l on off
    refine evp_bind (evp_of (spec_spread a b l on off hls) rfl) (fun f2 hf2 => ?_)
    subst hf2
    refine evp_bind (evp_of (same_ints _ (by omega)) rfl) (fun t ht2 => ?_)
    subst ht2
    simp only [if_true]
    refine evp_of (r := true) ?_ rfl
    obtain ⟨n, rfl⟩ : ∃ m : Nat, a = (m : Int) := ⟨a.toNat, by omega⟩
    obtain ⟨p0, rfl⟩ : ∃ m : Nat, on = (m : Int) := ⟨on.toNat, by omega⟩
    obtain ⟨p1, rfl⟩ : ∃ m : Nat, off = (m : Int) := ⟨off.toNat, by omega⟩
    have hsv : spreadV n b l p0 p1 = impl_Spread.l2 l n p1 (p1 - p0) p0 [] := by
      unfold spreadV
      rw [ht, hride]
      simp
    have hp01 : p0 < p1 := by omega
    have one : ∀ (q : Nat), p0 ≤ q → q < p1 → ∀ s : Int, s ∈ freeV n b l q ((q + 1 : Nat) : Int) ↔ (0 ≤ s ∧ s < n) ∧ l.any (impl_TrainOk.l4 s.toNat q) = false := fun q q1 q2 s => by
      rw [mem_free]
      constructor
      · rintro ⟨_, _, h1, h2⟩
        exact ⟨h1, h2 q (Int.le_refl _) (by omega)⟩
      · rintro ⟨h1, h2⟩
        refine ⟨ht, decide_eq_true (by omega), h1, fun p e1 e2 => ?_⟩
        rw [show p = q by omega]; exact h2
    rcases spread_spec l n p1 (p1 - p0) p0 [] (Nat.le_refl _) (by omega) with ⟨h1, q, q1, q2, q3⟩ | ⟨suf, h1, h2, h3⟩
    · rw [hsv, h1]
      simp only [List.length_nil, Int.ofNat_zero, if_true]
      have hq : freeV n b l q ((q + 1 : Nat) : Int) = [] := by
        rw [List.eq_nil_iff_forall_not_mem]
        intro s hs
        obtain ⟨h4, h5⟩ := (one q q1 q2 s).1 hs
        rw [q3 s.toNat (by omega)] at h5
        cases h5
      have step : ∀ (p : Nat) (k : Nat), p < p1 → laws_FnSpread.l0 (k + 1) p1 p n b l = if freeV n b l p ((p + 1 : Nat) : Int) = [] then some true else laws_FnSpread.l0 k p1 ((p + 1 : Nat) : Int) n b l := fun p k hp => by
        have f1 : (p : Int) < p1 := by omega
        have hw1 := w64s hp (by omega)
        simp only [laws_FnSpread.l0, if_pos f1, hw1, impl_free, Option.bind_some]
        by_cases c : freeV n b l p ((p + 1 : Nat) : Int) = []
        · rw [c]; simp
        · rw [if_neg c, if_neg (by simpa using c)]
      have key : ∀ d p : Nat, p + d = q → Ev (fun k => laws_FnSpread.l0 k p1 p n b l) true := by
        intro d
        induction d with
        | zero =>
          intro p hp
          obtain rfl : p = q := by omega
          exact ev_some (fun k => by rw [step p k q2, if_pos hq])
        | succ d ih =>
          intro p hp
          by_cases c : freeV n b l p ((p + 1 : Nat) : Int) = []
          · exact ev_some (fun k => by rw [step p k (by omega), if_pos c])
          · exact ev_at (ih (p + 1) (by omega)) (fun k => by rw [step p k (by omega), if_neg c])
      exact key (q - p0) p0 (by omega)
    · rw [List.nil_append] at h1
      rw [hsv, h1]
      have hne : ¬ (suf.length : Int) = 0 := by omega
      have hle : (suf.length : Int) = (p1 : Int) - p0 := by omega
      simp only [if_neg hne, if_pos hle]
      have hz : 0 < suf.length := by omega
      -- one seat told for all, just when one is free for all
      have fin : suf.all (fun x => decide (x = suf[0])) = decide (((freeV n b l p0 p1).length : Int) > 0) := by
        rw [Bool.eq_iff_iff, decide_eq_true_eq, List.all_eq_true]
        constructor
        · intro hall
          obtain ⟨s, s1, s2, s3⟩ := h3 0 hz
          have : (s : Int) ∈ freeV n b l p0 p1 := by
            refine mem_free.2 ⟨ht, hride, ⟨by omega, by omega⟩, fun p e1 e2 => ?_⟩
            have hi : p - p0 < suf.length := by omega
            obtain ⟨s', t1, t2, t3⟩ := h3 (p - p0) hi
            have := of_decide_eq_true (hall suf[p - p0] (List.getElem_mem hi))
            rw [t2, s2] at this
            rw [show p0 + (p - p0) = p by omega] at t3
            rw [Int.toNat_natCast, ← show s' = s by omega]
            exact t3
          have := List.length_pos_of_mem this
          omega
        · intro hpos
          obtain ⟨s, hs⟩ := List.exists_mem_of_length_pos (show 0 < (freeV n b l p0 p1).length by omega)
          obtain ⟨_, _, h4, h5⟩ := mem_free.1 hs
          obtain ⟨c, hc⟩ := spread_one l n p1 (p1 - p0 - 1) p0 s.toNat (by omega) hp01 (run_full l s.toNat (p1 - p0) p0 (fun q e1 e2 => h5 q (by omega) (by omega)))
          rw [show p1 - p0 - 1 + 1 = p1 - p0 by omega, h1] at hc
          subst hc
          intro x hx
          rw [List.eq_of_mem_replicate hx]
          simp
      have key : ∀ i, i ≤ suf.length → Ev (fun k => laws_FnSpread.l1 k p0 p1 suf ((suf.take i).all fun x => decide (x = suf[0])) (i : Int) n b l) true := by
        refine down suf.length ?_ (fun i hi ih => ?_)
        · rw [List.take_length]
          refine ev_some (fun k => ?_)
          simp only [laws_FnSpread.l1, if_neg (Int.lt_irrefl _), impl_free, Option.bind_some, fin]
          simp
        · have f1 : (i : Int) < suf.length := by omega
          have f2 : (0 : Int) ≤ i := by omega
          have hpi : p0 + i < 1000 := by omega
          have hwi := w64s hi (by omega)
          have hwq : wrap64 ((p0 : Int) + i) = ((p0 + i : Nat) : Int) := by clear hwi; rw [w64 (by omega) (by omega)]; omega
          have hwq1 : wrap64 (((p0 + i : Nat) : Int) + 1) = ((p0 + i + 1 : Nat) : Int) := by clear hwi hwq; rw [w64 (by omega) (by omega)]; omega
          have hrd : rd suf (i : Int) = suf[i] := by simp [rd, List.getD_eq_getElem?_getD, hi]
          have hr0 : rd suf 0 = suf[0] := by simp [rd, List.getD_eq_getElem?_getD, hz]
          have f3 : (0 : Int) < suf.length := by clear hwi hwq hwq1; omega
          have hin : ((freeV n b l ((p0 + i : Nat) : Int) ((p0 + i + 1 : Nat) : Int)).any fun x => decide (x = suf[i])) = true := by
            obtain ⟨s, s1, s2, s3⟩ := h3 i hi
            rw [List.any_eq_true]
            refine ⟨s, (one (p0 + i) (by clear hwi hwq hwq1; omega) (by clear hwi hwq hwq1; omega) s).2 ⟨by clear hwi hwq hwq1; omega, by rw [Int.toNat_natCast]; exact s3⟩, by simp [s2]⟩
          have hsh := free_short n b l ((p0 + i : Nat) : Int) ((p0 + i + 1 : Nat) : Int)
          refine ev_at (f := fun k => (laws_within.f k (freeV n b l ((p0 + i : Nat) : Int) ((p0 + i + 1 : Nat) : Int)) suf[i]).bind fun t413 => if t413 = true then (if suf[i] = suf[0] then laws_FnSpread.l1 k p0 p1 suf ((suf.take i).all fun x => decide (x = suf[0])) ((i + 1 : Nat) : Int) n b l else laws_FnSpread.l1 k p0 p1 suf false ((i + 1 : Nat) : Int) n b l) else some false) ?_ (fun k => by
            simp only [laws_FnSpread.l1, if_pos f1, hwq, hwq1, impl_free, Option.bind_some, if_pos f2, hrd, hr0, if_pos f3, hwi])
          refine Ev.bind (withinV _ _ (by clear hwi hwq hwq1; omega)) ?_
          rw [hin]
          simp only [if_true]
          rw [List.take_succ_eq_append_getElem hi, List.all_append] at ih
          simp only [List.all_cons, List.all_nil, Bool.and_true] at ih
          by_cases c : suf[i] = suf[0]
          · simp only [if_pos c]
            rw [c] at ih
            simpa using ih
          · simp only [if_neg c]
            rw [decide_eq_false c, Bool.and_false] at ih
            exact ih
      simpa using key 0 (Nat.zero_le _)
end Go.Proofs.Ytklikbjlfaednaa.Pure

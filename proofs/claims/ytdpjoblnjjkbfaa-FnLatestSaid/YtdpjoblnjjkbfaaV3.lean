/- Legs and ways of a timetable; what the reference's reach tells of them. -/
import Derived.Test.YtdpjoblnjjkbfaaV2i
namespace Go.Proofs.Ytdpjoblnjjkbfaa.Pure
open Go.RowKit Go.Proofs.Ytdpjoblnjjkbfaa.P Go.Proofs.YtdpjoblnjjkbfaaW.PrintWords Go.Proofs.YtdpjoblnjjkbfaaW.PrintLast

/-- A leg along calls: from a node at a minute to a node behind it at a minute. -/
def LegIn : List S67 → Int → Int → Int → Int → Prop
  | [], _, _, _, _ => False
  | c :: cs, u, v, d, a => (c.f0 = u ∧ c.f2 = d ∧ ∃ e, e ∈ cs ∧ e.f0 = v ∧ e.f1 = a) ∨ LegIn cs u v d a
def Leg (l : List S51) (u v d a : Int) : Prop := ∃ t, t ∈ l ∧ LegIn t.f1 u v d a
/-- A way of n + 1 legs: from u at the minute d to v at the minute a. -/
def Path (l : List S51) (ch : Int) : Nat → Int → Int → Int → Int → Prop
  | 0, u, d, v, a => Leg l u v d a
  | n + 1, u, d, v, a => ∃ w d' a', Leg l u w d a' ∧ a' + ch ≤ d' ∧ Path l ch n w d' v a
theorem path_snoc (l : List S51) (ch : Int) (n : Nat) (u d v a : Int) : Path l ch (n + 1) u d v a ↔ ∃ w d' a', Path l ch n u d w a' ∧ a' + ch ≤ d' ∧ Leg l w v d' a := by
  induction n generalizing u d with
  | zero => exact Iff.rfl
  | succ n ih =>
    constructor
    · rintro ⟨w, d', a', h1, h2, h3⟩
      obtain ⟨w2, d2, a2, h4, h5, h6⟩ := (ih w d').1 h3
      exact ⟨w2, d2, a2, ⟨w, d', a', h1, h2, h4⟩, h5, h6⟩
    · rintro ⟨w2, d2, a2, ⟨w, d', a', h1, h2, h4⟩, h5, h6⟩
      exact ⟨w, d', a', h1, h2, (ih w d').2 ⟨w2, d2, a2, h4, h5, h6⟩⟩
theorem legIn_idx (cs : List S67) (u v d a : Int) : LegIn cs u v d a ↔ ∃ i, i < cs.length ∧ (cs.getD i z67).f0 = u ∧ (cs.getD i z67).f2 = d ∧ ∃ e, e ∈ cs.drop (i + 1) ∧ e.f0 = v ∧ e.f1 = a := by
  induction cs with
  | nil => simp [LegIn]
  | cons c cs ih =>
    simp only [LegIn, ih]
    constructor
    · rintro (⟨h1, h2, h3⟩ | ⟨i, hi, h1, h2, h3⟩)
      · exact ⟨0, by simp, by simpa using h1, by simpa using h2, by simpa using h3⟩
      · exact ⟨i + 1, by simpa using hi, by simpa using h1, by simpa using h2, by simpa using h3⟩
    · rintro ⟨i, hi, h1, h2, h3⟩
      cases i with
      | zero => exact Or.inl ⟨by simpa using h1, by simpa using h2, by simpa using h3⟩
      | succ i => exact Or.inr ⟨i, by simpa using hi, by simpa using h1, by simpa using h2, by simpa using h3⟩

theorem callsB_step {cs : List S67} (h : callsB cs = true) {i : Nat} (hi : i + 1 < cs.length) : (cs.getD i z67).f2 < (cs.getD (i + 1) z67).f1 ∧ (cs.getD (i + 1) z67).f1 ≤ (cs.getD (i + 1) z67).f2 := by
  simp only [callsB, List.all_eq_true, List.mem_range] at h
  have := h (i + 1) hi
  simp only [callB, Bool.and_eq_true, Bool.or_eq_true, decide_eq_true_eq, inB_iff, Nat.add_sub_cancel] at this
  obtain ⟨⟨_, h2⟩, h3⟩ := this
  exact ⟨(h3.resolve_left (by omega)).1, h2.2⟩
theorem callsB_later {cs : List S67} (h : callsB cs = true) (i : Nat) : ∀ j, i < j → j < cs.length → (cs.getD i z67).f2 < (cs.getD j z67).f1 ∧ (cs.getD j z67).f1 ≤ (cs.getD j z67).f2 := by
  intro j
  induction j with
  | zero => intro hj; omega
  | succ j ih =>
    intro hj hl
    have hs := callsB_step h hl
    rcases Nat.lt_or_ge i j with c | c
    · have := ih c (by omega)
      exact ⟨by omega, hs.2⟩
    · have e : i = j := by omega
      subst e; exact hs
theorem mem_drop_getD (cs : List S67) (i : Nat) (e : S67) : e ∈ cs.drop i ↔ ∃ j, i ≤ j ∧ j < cs.length ∧ cs.getD j z67 = e := by
  rw [List.mem_iff_getElem]
  constructor
  · rintro ⟨j, hj, rfl⟩
    rw [List.length_drop] at hj
    exact ⟨i + j, by omega, by omega, by simp [List.getD_eq_getElem?_getD, List.getElem?_eq_getElem (show i + j < cs.length by omega)]⟩
  · rintro ⟨j, h1, h2, rfl⟩
    refine ⟨j - i, by rw [List.length_drop]; omega, ?_⟩
    simp [List.getD_eq_getElem?_getD, List.getElem?_eq_getElem h2, show i + (j - i) = j by omega]
/-- Legs of a right timetable: nodes and minutes are in bounds, and it takes time. -/
theorem leg_ok {l : List S51} (h : tableB l = true) {u v d a : Int} (hl : Leg l u v d a) : 0 ≤ u ∧ u < 30 ∧ 0 ≤ v ∧ v < 30 ∧ 0 ≤ d ∧ d < a ∧ a ≤ 100000 := by
  obtain ⟨t, ht, hL⟩ := hl
  have hB := trip_of h ht
  obtain ⟨i, hi, rfl, rfl, e, he, rfl, rfl⟩ := (legIn_idx _ _ _ _ _).1 hL
  have h1 := calls_ok hB (getD_mem z67 t.f1 i hi)
  have h2 := calls_ok hB (List.mem_of_mem_drop he)
  obtain ⟨j, hj1, hj2, rfl⟩ := (mem_drop_getD _ _ _).1 he
  have h3 := callsB_later (cs := t.f1) (by simp only [tripB, Bool.and_eq_true] at hB; exact hB.2) i j (by omega) hj2
  omega
theorem path_ok {l : List S51} (h : tableB l = true) {ch : Int} (hc : 0 ≤ ch) {n : Nat} {u d v a : Int} (hp : Path l ch n u d v a) : 0 ≤ u ∧ u < 30 ∧ 0 ≤ v ∧ v < 30 ∧ 0 ≤ d ∧ d < a ∧ a ≤ 100000 := by
  induction n generalizing u d with
  | zero => exact leg_ok h hp
  | succ n ih =>
    obtain ⟨w, d', a', h1, h2, h3⟩ := hp
    have h4 := leg_ok h h1
    have h5 := ih h3
    omega

/-- A fold whose steps each lay one condition more. -/
theorem fold_cond {α σ : Type} (f : σ → α → σ) (Good : σ → Prop) (C : σ → Prop) (Q : α → Prop) (l : List α)
    (h : ∀ s a, Good s → a ∈ l → Good (f s a) ∧ (C (f s a) ↔ C s ∧ Q a)) (s : σ) (hs : Good s) : Good (l.foldl f s) ∧ (C (l.foldl f s) ↔ C s ∧ ∀ a, a ∈ l → Q a) := by
  induction l generalizing s with
  | nil => exact ⟨hs, by simp⟩
  | cons a l ih =>
    have h1 := h s a hs List.mem_cons_self
    have h2 := ih (fun s b hs hb => h s b hs (List.mem_cons_of_mem _ hb)) (f s a) h1.1
    refine ⟨h2.1, ?_⟩
    rw [List.foldl_cons, h2.2, h1.2]
    simp [and_assoc]

theorem getD_rep (n i : Nat) (x : Int) (h : i < n) : (List.replicate n x).getD i 0 = x := by rw [List.getD_eq_getElem?_getD, List.getElem?_replicate, if_pos h]; rfl
def rset (nx : List Int) (c : S67) : List Int := if nx.getD c.f0.toNat 0 < 0 ∨ c.f1 < nx.getD c.f0.toNat 0 then nx.set c.f0.toNat c.f1 else nx
def rbrd (fr ch : Int) (at_ : List Int) (c : S67) : Prop := 0 ≤ at_.getD c.f0.toNat 0 ∧ at_.getD c.f0.toNat 0 + (if c.f0 = fr then 0 else ch) ≤ c.f2
instance (fr ch : Int) (at_ : List Int) (c : S67) : Decidable (rbrd fr ch at_ c) := inferInstanceAs (Decidable (_ ∧ _))
def rcall (fr ch : Int) (at_ : List Int) (cs : List S67) (nx : List Int) (i : Nat) : List Int := if rbrd fr ch at_ (cs.getD i z67) then (cs.drop (i + 1)).foldl rset nx else nx
def rtrip (fr ch : Int) (at_ : List Int) (nx : List Int) (t : S51) : List Int := (List.range t.f1.length).foldl (rcall fr ch at_ t.f1) nx
def rleg (l : List S51) (fr ch : Int) (at_ : List Int) : List Int := l.foldl (rtrip fr ch at_) at_
def reach (l : List S51) (fr r ch : Int) : Nat → List Int
  | 0 => (List.replicate 30 (-1)).set fr.toNat r
  | h + 1 => rleg l fr ch (reach l fr r ch h)

def never : Int := 2000000
def rval (s : List Int) (v : Int) : Int := if s.getD v.toNat 0 < 0 then never else s.getD v.toNat 0
def RGood (s : List Int) : Prop := s.length = 30 ∧ ∀ x, x ∈ s → -1 ≤ x ∧ x ≤ 1000000
theorem rgood_at {s : List Int} (h : RGood s) (i : Nat) (hi : i < 30) : -1 ≤ s.getD i 0 ∧ s.getD i 0 ≤ 1000000 := h.2 _ (getD_mem 0 s i (by rw [h.1]; exact hi))
theorem rgood_set {s : List Int} (h : RGood s) (i : Nat) (x : Int) (h0 : -1 ≤ x) (h1 : x ≤ 1000000) : RGood (s.set i x) := by
  refine ⟨by simpa using h.1, fun y hy => ?_⟩
  rcases List.mem_or_eq_of_mem_set hy with hy | rfl
  · exact h.2 y hy
  · exact ⟨h0, h1⟩
theorem getD_set_i (s : List Int) (i j : Nat) (x : Int) (hi : i < s.length) : (s.set i x).getD j 0 = if i = j then x else s.getD j 0 := by
  simp only [List.getD_eq_getElem?_getD, List.getElem?_set]
  by_cases c : i = j
  · rw [if_pos c, if_pos c, if_pos hi]; rfl
  · rw [if_neg c, if_neg c]
section
variable {x v : Int} (hv : 0 ≤ v ∧ v < 30) (hx : x ≤ never)
include hv hx
theorem rset_cond {nx : List Int} (hg : RGood nx) {c : S67} (hc : 0 ≤ c.f0 ∧ c.f0 < 30 ∧ 0 ≤ c.f1 ∧ c.f1 ≤ 100000) : RGood (rset nx c) ∧ (x ≤ rval (rset nx c) v ↔ x ≤ rval nx v ∧ (c.f0 = v → x ≤ c.f1)) := by
  have hl := hg.1
  unfold rset
  by_cases h : nx.getD c.f0.toNat 0 < 0 ∨ c.f1 < nx.getD c.f0.toNat 0
  · rw [if_pos h]
    refine ⟨rgood_set hg _ _ (by omega) (by omega), ?_⟩
    unfold rval
    rw [getD_set_i nx _ _ _ (by omega)]
    by_cases e : c.f0 = v
    · subst e
      rw [if_pos rfl, if_neg (by omega)]
      constructor
      · intro hh
        refine ⟨?_, fun _ => hh⟩
        split
        · exact hx
        · omega
      · rintro ⟨_, hh⟩; exact hh rfl
    · rw [if_neg (show ¬ c.f0.toNat = v.toNat by omega)]
      simp [e]
  · rw [if_neg h]
    refine ⟨hg, ?_⟩
    constructor
    · intro hh
      refine ⟨hh, fun e => ?_⟩
      subst e
      unfold rval at hh
      rw [if_neg (by omega)] at hh
      omega
    · exact fun hh => hh.1
theorem rcall_cond (fr ch : Int) (at_ : List Int) {cs : List S67} (hcs : ∀ c, c ∈ cs → 0 ≤ c.f0 ∧ c.f0 < 30 ∧ 0 ≤ c.f1 ∧ c.f1 ≤ 100000) {nx : List Int} (hg : RGood nx) (i : Nat) :
    RGood (rcall fr ch at_ cs nx i) ∧ (x ≤ rval (rcall fr ch at_ cs nx i) v ↔ x ≤ rval nx v ∧ (rbrd fr ch at_ (cs.getD i z67) → ∀ e, e ∈ cs.drop (i + 1) → e.f0 = v → x ≤ e.f1)) := by
  unfold rcall
  by_cases h : rbrd fr ch at_ (cs.getD i z67)
  · rw [if_pos h]
    have := fold_cond rset RGood (fun s => x ≤ rval s v) (fun e => e.f0 = v → x ≤ e.f1) (cs.drop (i + 1)) (fun s a hs ha => rset_cond hv hx hs (hcs a (List.mem_of_mem_drop ha))) nx hg
    exact ⟨this.1, this.2.trans ⟨fun hh => ⟨hh.1, fun _ => hh.2⟩, fun hh => ⟨hh.1, hh.2 h⟩⟩⟩
  · rw [if_neg h]
    exact ⟨hg, ⟨fun hh => ⟨hh, fun h' => absurd h' h⟩, fun hh => hh.1⟩⟩
theorem rleg_cond {l : List S51} (h : tableB l = true) (fr ch : Int) {at_ : List Int} (hg : RGood at_) :
    RGood (rleg l fr ch at_) ∧ (x ≤ rval (rleg l fr ch at_) v ↔ x ≤ rval at_ v ∧ ∀ u d a, Leg l u v d a → 0 ≤ at_.getD u.toNat 0 → at_.getD u.toNat 0 + (if u = fr then 0 else ch) ≤ d → x ≤ a) := by
  have hcs : ∀ t, t ∈ l → ∀ c, c ∈ t.f1 → 0 ≤ c.f0 ∧ c.f0 < 30 ∧ 0 ≤ c.f1 ∧ c.f1 ≤ 100000 := fun t ht c hc => by have := calls_ok (trip_of h ht) hc; omega
  have key := fold_cond (rtrip fr ch at_) RGood (fun s => x ≤ rval s v) (fun t => ∀ u d a, LegIn t.f1 u v d a → 0 ≤ at_.getD u.toNat 0 → at_.getD u.toNat 0 + (if u = fr then 0 else ch) ≤ d → x ≤ a) l
    (fun s t hs ht => by
      have k2 := fold_cond (rcall fr ch at_ t.f1) RGood (fun s => x ≤ rval s v) (fun i => rbrd fr ch at_ (t.f1.getD i z67) → ∀ e, e ∈ t.f1.drop (i + 1) → e.f0 = v → x ≤ e.f1) (List.range t.f1.length) (fun s i hs _ => rcall_cond hv hx fr ch at_ (hcs t ht) hs i) s hs
      refine ⟨k2.1, k2.2.trans (and_congr_right fun _ => ?_)⟩
      constructor
      · intro hh u d a hL h0 h1
        obtain ⟨i, hi, rfl, rfl, e, he, ev, rfl⟩ := (legIn_idx _ _ _ _ _).1 hL
        exact hh i (List.mem_range.2 hi) ⟨h0, h1⟩ e he ev
      · intro hh i hi hb e he ev
        exact hh _ _ _ ((legIn_idx _ _ _ _ _).2 ⟨i, List.mem_range.1 hi, rfl, rfl, e, he, ev, rfl⟩) hb.1 hb.2) at_ hg
  refine ⟨key.1, key.2.trans (and_congr_right fun _ => ?_)⟩
  constructor
  · rintro hh u d a ⟨t, ht, hL⟩; exact hh t ht u d a hL
  · intro hh t ht u d a hL; exact hh u d a ⟨t, ht, hL⟩
end

section
variable {l : List S51} (h : tableB l = true) {fr r ch : Int} (hfr : 0 ≤ fr ∧ fr < 30) (hr : 0 ≤ r ∧ r ≤ 1000000) (hc : 0 ≤ ch)
include h hfr hr hc
theorem reach_good (n : Nat) : RGood (reach l fr r ch n) := by
  have _u := And.intro hfr hc
  induction n with
  | zero =>
    refine rgood_set ⟨by simp, fun x hx => ?_⟩ _ _ (by omega) (by omega)
    rw [(List.mem_replicate.1 hx).2]; omega
  | succ n ih => exact (rleg_cond (x := 0) (v := 0) (by omega) (by decide) h fr ch ih).1
/-- What the reference's reach tells: a bound is below it just when it is below all arrivals. -/
theorem reach_cond (n : Nat) (x v : Int) (hv : 0 ≤ v ∧ v < 30) (hx : x ≤ never) :
    x ≤ rval (reach l fr r ch n) v ↔ (v = fr → x ≤ r) ∧ ∀ m, m < n → ∀ d a, r ≤ d → Path l ch m fr d v a → x ≤ a := by
  induction n generalizing x v with
  | zero =>
    unfold rval reach
    rw [getD_set_i _ _ _ _ (by simp; omega)]
    by_cases e : v = fr
    · subst e
      rw [if_pos rfl, if_neg (by omega)]
      simp
    · rw [if_neg (show ¬ fr.toNat = v.toNat by omega), getD_rep 30 _ _ (by omega)]
      simp [e, hx]
  | succ n ih =>
    have hg := reach_good h hfr hr hc n
    rw [reach, (rleg_cond hv hx h fr ch hg).2, ih x v hv hx]
    constructor
    · rintro ⟨⟨h1, h2⟩, h3⟩
      refine ⟨h1, fun m hm d a hd hp => ?_⟩
      rcases Nat.lt_or_ge m n with c | c
      · exact h2 m c d a hd hp
      · have e : m = n := by omega
        subst e
        cases m with
        | zero =>
          have hz : (reach l fr r ch 0).getD fr.toNat 0 = r := by
            unfold reach; rw [getD_set_i _ _ _ _ (by simp; omega), if_pos rfl]
          exact h3 fr d a hp (by rw [hz]; omega) (by rw [hz, if_pos rfl]; omega)
        | succ m =>
          obtain ⟨w, d', a', h4, h5, h6⟩ := (path_snoc l ch m fr d v a).1 hp
          have hw := path_ok h hc h4
          have h7 : rval (reach l fr r ch (m + 1)) w ≤ a' := by
            have h8 : rval (reach l fr r ch (m + 1)) w ≤ never := by
              unfold rval
              have := rgood_at hg w.toNat (by omega)
              split
              · exact Int.le_refl _
              · unfold never; omega
            exact ((ih _ w (by omega) h8).1 (Int.le_refl _)).2 m (by omega) d a' hd h4
          unfold rval at h7
          have h8 : ¬ (reach l fr r ch (m + 1)).getD w.toNat 0 < 0 := by
            intro hh; rw [if_pos hh] at h7; unfold never at h7; omega
          rw [if_neg h8] at h7
          refine h3 w d' a h6 (by omega) ?_
          split <;> omega
    · rintro ⟨h1, h2⟩
      refine ⟨⟨h1, fun m hm => h2 m (by omega)⟩, fun u d a hL h0 h3 => ?_⟩
      have hu := leg_ok h hL
      have hv2 : rval (reach l fr r ch n) u = (reach l fr r ch n).getD u.toNat 0 := by unfold rval; rw [if_neg (by omega)]
      have hb := rgood_at hg u.toNat (by omega)
      by_cases e : u = fr
      · have : r ≤ d := by
          rw [if_pos e] at h3
          refine Int.le_trans ?_ (show (reach l fr r ch n).getD u.toNat 0 ≤ d by omega)
          rw [← hv2]
          refine (ih r u (by omega) (by unfold never; omega)).2 ⟨fun _ => Int.le_refl _, fun m _ d a hd hp => ?_⟩
          have := path_ok h hc hp
          omega
        exact h2 0 (by omega) d a this (e ▸ hL)
      · rw [if_neg e] at h3
        have : ∃ m, m < n ∧ ∃ d' a', r ≤ d' ∧ Path l ch m fr d' u a' ∧ a' ≤ (reach l fr r ch n).getD u.toNat 0 := by
          refine Classical.byContradiction (fun hn => ?_)
          have := (ih ((reach l fr r ch n).getD u.toNat 0 + 1) u (by omega) (by unfold never; omega)).2 ⟨fun e' => absurd e' e, fun m hm d' a' hd hp => ?_⟩
          · rw [hv2] at this; omega
          · refine Classical.byContradiction (fun hlt => hn ⟨m, hm, d', a', hd, hp, by omega⟩)
        obtain ⟨m, hm, d', a', hd, hp, ha⟩ := this
        exact h2 (m + 1) (by omega) d' a hd ((path_snoc l ch m fr d' v a).2 ⟨u, d, a', hp, by omega, hL⟩)
end
end Go.Proofs.Ytdpjoblnjjkbfaa.Pure

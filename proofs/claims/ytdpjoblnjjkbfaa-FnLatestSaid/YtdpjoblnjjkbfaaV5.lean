/- What the program's rows of arrivals tell of ways; its soonest arrival is the reference's. -/
import Derived.Test.YtdpjoblnjjkbfaaV5r
namespace Go.Proofs.Ytdpjoblnjjkbfaa.Pure
open Go.RowKit Go.Proofs.Ytdpjoblnjjkbfaa.P Go.Proofs.YtdpjoblnjjkbfaaW.PrintWords Go.Proofs.YtdpjoblnjjkbfaaW.PrintLast

theorem table_l4 {l : List S51} (h : tableB l = true) : impl_arrivals.l4 l = true := by
  have hl : l.length ≤ 24 := by simp only [tableB, Bool.and_eq_true, decide_eq_true_eq] at h; exact h.1
  simp only [impl_arrivals.l4, Bool.and_eq_true, decide_eq_true_eq, List.all_eq_true]
  refine ⟨hl, fun t ht => ?_⟩
  have hB := trip_of h ht
  refine ⟨?_, fun c hc => ?_⟩
  · simp only [tripB, Bool.and_eq_true, inB_iff] at hB
    omega
  · have := calls_ok hB hc
    omega
section
variable {x v : Int} (hv : 0 ≤ v ∧ v < 30)
/-- All but the row behind h is as it was. -/
def RowKept (h : Nat) (o0 o : List Int) : Prop := o.length = o0.length ∧ ∀ p, (p < (h + 1) * 30 ∨ (h + 2) * 30 ≤ p) → o.getD p 0 = o0.getD p 0
include hv
theorem scan_cond (h : Nat) (wait : Int) {o0 : List Int} (hL : (h + 2) * 30 ≤ o0.length) : ∀ (cs : List S67), (∀ c, c ∈ cs → 0 ≤ c.f0 ∧ c.f0 < 30) → ∀ (o : List Int) (b : Bool), RowKept h o0 o →
    RowKept h o0 (cs.foldl (impl_arrivals.l0 h wait) (o, b)).1 ∧
    (x ≤ (cs.foldl (impl_arrivals.l0 h wait) (o, b)).1.getD ((h + 1) * 30 + v.toNat) 0 ↔ x ≤ o.getD ((h + 1) * 30 + v.toNat) 0 ∧ (b = true → ∀ c, c ∈ cs → c.f0 = v → x ≤ c.f1) ∧
      ∀ u d a, LegIn cs u v d a → o0.getD (h * 30 + u.toNat) 0 < 100001 → o0.getD (h * 30 + u.toNat) 0 + wait ≤ d → x ≤ a) := by
  intro cs
  induction cs with
  | nil => intro _ o b hk; exact ⟨hk, by simp [LegIn]⟩
  | cons c cs ih =>
    intro hcs o b hk
    have hc := hcs c List.mem_cons_self
    rw [List.foldl_cons]
    have hk1 : RowKept h o0 (impl_arrivals.l0 h wait (o, b) c).1 := by
      unfold impl_arrivals.l0
      dsimp only
      by_cases hb : b = true
      · rw [if_pos hb]
        refine ⟨by simpa using hk.1, fun p hp => ?_⟩
        rw [getD_set_i _ _ _ _ (by rw [hk.1]; omega), if_neg (by omega)]
        exact hk.2 p hp
      · rw [if_neg hb]; exact hk
    have hv1 : x ≤ (impl_arrivals.l0 h wait (o, b) c).1.getD ((h + 1) * 30 + v.toNat) 0 ↔ x ≤ o.getD ((h + 1) * 30 + v.toNat) 0 ∧ (b = true → c.f0 = v → x ≤ c.f1) := by
      unfold impl_arrivals.l0
      dsimp only
      by_cases hb : b = true
      · rw [if_pos hb, getD_set_i _ _ _ _ (by rw [hk.1]; omega)]
        by_cases e : c.f0 = v
        · subst e
          rw [if_pos rfl]
          simp [hb]
          omega
        · rw [if_neg (by omega)]
          simp [e]
      · rw [if_neg hb]
        simp [hb]
    have hb1 : (impl_arrivals.l0 h wait (o, b) c).2 = true ↔ b = true ∨ (o0.getD (h * 30 + c.f0.toNat) 0 < 100001 ∧ o0.getD (h * 30 + c.f0.toNat) 0 + wait ≤ c.f2) := by
      have e := hk1.2 (h * 30 + c.f0.toNat) (Or.inl (by omega))
      rw [← e]
      simp [impl_arrivals.l0]
    have h2 := ih (fun c hc => hcs c (List.mem_cons_of_mem _ hc)) _ (impl_arrivals.l0 h wait (o, b) c).2 hk1
    refine ⟨h2.1, h2.2.trans ?_⟩
    rw [hv1, hb1]
    constructor
    · rintro ⟨⟨a1, a2⟩, a3, a4⟩
      refine ⟨a1, fun hb e he ev => ?_, fun u d a hL h0 h1 => ?_⟩
      · rcases List.mem_cons.1 he with rfl | he
        · exact a2 hb ev
        · exact a3 (Or.inl hb) e he ev
      · rcases hL with ⟨rfl, rfl, e, he, ev, rfl⟩ | hL
        · exact a3 (Or.inr ⟨h0, h1⟩) e he ev
        · exact a4 u d a hL h0 h1
    · rintro ⟨a1, a2, a3⟩
      refine ⟨⟨a1, fun hb => a2 hb c List.mem_cons_self⟩, ?_, fun u d a hL => a3 u d a (Or.inr hL)⟩
      rintro (hb | ⟨h0, h1⟩) e he ev
      · exact a2 hb e (List.mem_cons_of_mem _ he) ev
      · exact a3 c.f0 c.f2 e.f1 (Or.inl ⟨rfl, rfl, e, he, ev, rfl⟩) h0 h1
theorem row_cond {l : List S51} (ht : tableB l = true) (h : Nat) (wait : Int) {o0 : List Int} (hL : (h + 2) * 30 ≤ o0.length) :
    RowKept h o0 (l.foldl (impl_arrivals.l1 h wait) o0) ∧
    (x ≤ (l.foldl (impl_arrivals.l1 h wait) o0).getD ((h + 1) * 30 + v.toNat) 0 ↔ x ≤ o0.getD ((h + 1) * 30 + v.toNat) 0 ∧
      ∀ u d a, Leg l u v d a → o0.getD (h * 30 + u.toNat) 0 < 100001 → o0.getD (h * 30 + u.toNat) 0 + wait ≤ d → x ≤ a) := by
  have key := fold_cond (impl_arrivals.l1 h wait) (RowKept h o0) (fun o => x ≤ o.getD ((h + 1) * 30 + v.toNat) 0) (fun t => ∀ u d a, LegIn t.f1 u v d a → o0.getD (h * 30 + u.toNat) 0 < 100001 → o0.getD (h * 30 + u.toNat) 0 + wait ≤ d → x ≤ a) l
    (fun s t hs hm => by
      have := scan_cond (x := x) hv h wait hL t.f1 (fun c hc => by have := calls_ok (trip_of ht hm) hc; omega) s false hs
      refine ⟨this.1, this.2.trans ?_⟩
      simp) o0 ⟨rfl, fun _ _ => rfl⟩
  refine ⟨key.1, key.2.trans (and_congr_right fun _ => ?_)⟩
  constructor
  · rintro hh u d a ⟨t, hm, hL⟩; exact hh t hm u d a hL
  · intro hh t hm u d a hL; exact hh u d a ⟨t, hm, hL⟩
end

/-- A bound of all arrivals by just so many legs. -/
def acond (l : List S51) (fr mi ch : Int) : Nat → Int → Int → Prop
  | 0, v, x => v = fr → x ≤ mi
  | m + 1, v, x => ∀ d a, mi ≤ d → Path l ch m fr d v a → x ≤ a
section
variable {l : List S51} (h : tableB l = true) {fr mi ch : Int} (hfr : 0 ≤ fr ∧ fr < 30) (hr : 0 ≤ mi ∧ mi ≤ 100000) (hc : 0 ≤ ch)
include h hfr hr hc
theorem arr_rows (hops : Nat) : ∀ k, k ≤ hops → (impl_arrivals.l2 l ch k ((List.replicate ((hops + 1) * 30) 100001).set fr.toNat mi)).length = (hops + 1) * 30 ∧
    (∀ m, m ≤ k → ∀ x v : Int, 0 ≤ v → v < 30 → (x ≤ (impl_arrivals.l2 l ch k ((List.replicate ((hops + 1) * 30) 100001).set fr.toNat mi)).getD (m * 30 + v.toNat) 0 ↔ x ≤ 100001 ∧ acond l fr mi ch m v x)) ∧
    (∀ m, k < m → m ≤ hops → ∀ v : Int, 0 ≤ v → v < 30 → (impl_arrivals.l2 l ch k ((List.replicate ((hops + 1) * 30) 100001).set fr.toNat mi)).getD (m * 30 + v.toNat) 0 = 100001) := by
  intro k
  induction k with
  | zero =>
    intro _
    simp only [impl_arrivals.l2]
    refine ⟨by simp, fun m hm x v h0 h1 => ?_, fun m hm hm2 v h0 h1 => ?_⟩
    · obtain rfl : m = 0 := by omega
      rw [getD_set_i _ _ _ _ (by rw [List.length_replicate]; omega), acond]
      by_cases e : v = fr
      · subst e
        rw [if_pos (by omega)]
        simp
        omega
      · rw [if_neg (by omega), getD_rep _ _ _ (by omega)]
        simp [e]
    · rw [getD_set_i _ _ _ _ (by rw [List.length_replicate]; omega), if_neg (by omega), getD_rep _ _ _ (by omega)]
  | succ k ih =>
    intro hk
    obtain ⟨hL, hA, hN⟩ := ih (by omega)
    simp only [impl_arrivals.l2]
    generalize impl_arrivals.l2 l ch k ((List.replicate ((hops + 1) * 30) 100001).set fr.toNat mi) = o at hL hA hN
    have hrow := fun (x v : Int) (hv : 0 ≤ v ∧ v < 30) => row_cond (x := x) (v := v) hv h k (if k = 0 then 0 else ch) (o0 := o) (by omega)
    have hkept := (hrow 0 0 (by omega)).1
    refine ⟨by rw [hkept.1]; exact hL, fun m hm x v h0 h1 => ?_, fun m hm hm2 v h0 h1 => ?_⟩
    · rcases Nat.lt_or_ge m (k + 1) with c | c
      · rw [hkept.2 _ (Or.inl (by omega))]
        exact hA m (by omega) x v h0 h1
      · obtain rfl : m = k + 1 := by omega
        rw [(hrow x v ⟨h0, h1⟩).2, hN (k + 1) (by omega) (by omega) v h0 h1]
        refine and_congr_right fun hx => ?_
        simp only [acond]
        constructor
        · intro hh d a hd hp
          cases k with
          | zero =>
            have hz : o.getD (0 * 30 + fr.toNat) 0 ≤ mi := ((hA 0 (by omega) _ fr hfr.1 hfr.2).1 (Int.le_refl _)).2 rfl
            exact hh fr d a hp (by omega) (by rw [if_pos rfl]; omega)
          | succ k =>
            obtain ⟨w, d', a', h4, h5, h6⟩ := (path_snoc l ch k fr d v a).1 hp
            have hw := path_ok h hc h4
            have h7 : o.getD ((k + 1) * 30 + w.toNat) 0 ≤ a' := ((hA (k + 1) (by omega) _ w hw.2.2.1 hw.2.2.2.1).1 (Int.le_refl _)).2 d a' hd h4
            exact hh w d' a h6 (by omega) (by rw [if_neg (by omega)]; omega)
        · intro hh u d a hLg h0' h1'
          have hu := leg_ok h hLg
          cases k with
          | zero =>
            have : u = fr := by
              refine Classical.byContradiction (fun e => ?_)
              have := (hA 0 (by omega) 100001 u hu.1 hu.2.1).2 ⟨by omega, fun e' => absurd e' e⟩
              omega
            subst this
            have hz := (hA 0 (by omega) mi u hu.1 hu.2.1).2 ⟨by omega, fun _ => Int.le_refl _⟩
            rw [if_pos rfl] at h1'
            exact hh d a (by omega) hLg
          | succ k =>
            have : ∃ d' a', mi ≤ d' ∧ Path l ch k fr d' u a' ∧ a' ≤ o.getD ((k + 1) * 30 + u.toNat) 0 := by
              refine Classical.byContradiction (fun hn => ?_)
              have := (hA (k + 1) (by omega) (o.getD ((k + 1) * 30 + u.toNat) 0 + 1) u hu.1 hu.2.1).2 ⟨by omega, fun d' a' hd hp => ?_⟩
              · omega
              · refine Classical.byContradiction (fun hlt => hn ⟨d', a', hd, hp, by omega⟩)
            obtain ⟨d', a', hd, hp, ha⟩ := this
            rw [if_neg (by omega)] at h1'
            exact hh d' a hd ((path_snoc l ch k fr d' v a).2 ⟨u, d, a', hp, by omega, hLg⟩)
    · rw [hkept.2 _ (Or.inr (by omega))]
      exact hN m (by omega) hm2 v h0 h1
theorem arr_cond (hops m : Nat) (hm : m ≤ hops) (x v : Int) (hv : 0 ≤ v ∧ v < 30) : x ≤ (impl_arrivals.l3 l fr mi ch hops).getD (m * 30 + v.toNat) 0 ↔ x ≤ 100001 ∧ acond l fr mi ch m v x :=
  (arr_rows h hfr hr hc hops hops (Nat.le_refl _)).2.1 m hm x v hv.1 hv.2
end
end Go.Proofs.Ytdpjoblnjjkbfaa.Pure

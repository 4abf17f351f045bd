/- What the program's rows of departures tell of ways; its latest departure. -/
import Derived.Test.YtdpjoblnjjkbfaaV3
namespace Go.Proofs.Ytdpjoblnjjkbfaa.Pure
open Go.RowKit Go.Proofs.Ytdpjoblnjjkbfaa.P Go.Proofs.YtdpjoblnjjkbfaaW.PrintWords Go.Proofs.YtdpjoblnjjkbfaaW.PrintLast

theorem table_l8 {l : List S51} (h : tableB l = true) : impl_departures.l8 l = true := by
  have hl : l.length ≤ 24 := by simp only [tableB, Bool.and_eq_true, decide_eq_true_eq] at h; exact h.1
  simp only [impl_departures.l8, Bool.and_eq_true, decide_eq_true_eq, List.all_eq_true]
  refine ⟨hl, fun t ht => ?_⟩
  have hB := trip_of h ht
  refine ⟨?_, fun c hc => ?_⟩
  · simp only [tripB, Bool.and_eq_true, inB_iff] at hB
    omega
  · have := calls_ok hB hc
    omega
theorem getD_at {α : Type} (z : α) (l : List α) (i : Nat) (h : i < l.length) : l[i] = l.getD i z := by simp [List.getD_eq_getElem?_getD, List.getElem?_eq_getElem h]
theorem mem_getD {α : Type} (z : α) {l : List α} {a : α} (h : a ∈ l) : ∃ i, i < l.length ∧ l.getD i z = a := by
  obtain ⟨i, hi, rfl⟩ := List.mem_iff_getElem.1 h
  exact ⟨i, hi, (getD_at z l i hi).symm⟩
/-- The program's legs from a node are the ways of one leg. -/
theorem legs_leg (l : List S51) (u v d a : Int) : Leg l u v d a ↔ ∃ x, x ∈ impl_departures.l0 l u ∧ (impl_departures.l1 l x).f2 = d ∧ (impl_departures.l2 l x).f0 = v ∧ (impl_departures.l2 l x).f1 = a := by
  constructor
  · rintro ⟨t, ht, hL⟩
    obtain ⟨i, hi, rfl⟩ := mem_getD z51 ht
    obtain ⟨on, hon, hu, hd, e, he, hv, ha⟩ := (legIn_idx _ _ _ _ _).1 hL
    obtain ⟨off, h1, h2, rfl⟩ := (mem_drop_getD _ _ _).1 he
    refine ⟨⟨(i : Int), (on : Int), (off : Int)⟩, ?_, hd, hv, ha⟩
    unfold impl_departures.l0
    refine List.mem_flatMap.2 ⟨i, List.mem_range.2 hi, List.mem_flatMap.2 ⟨on, List.mem_range.2 hon, ?_⟩⟩
    rw [if_pos hu]
    refine List.mem_map.2 ⟨off - (on + 1), List.mem_range.2 (by omega), ?_⟩
    congr 1
    omega
  · rintro ⟨x, hx, rfl, rfl, rfl⟩
    unfold impl_departures.l0 at hx
    obtain ⟨i, hi, hx⟩ := List.mem_flatMap.1 hx
    obtain ⟨on, hon, hx⟩ := List.mem_flatMap.1 hx
    rw [List.mem_range] at hi hon
    split at hx
    · rename_i hn
      obtain ⟨m, hm, rfl⟩ := List.mem_map.1 hx
      rw [List.mem_range] at hm
      refine ⟨l.getD i z51, getD_mem z51 l i hi, (legIn_idx _ _ _ _ _).2 ⟨on, hon, hn, rfl, (l.getD i z51).f1.getD (on + 1 + m) z67, (mem_drop_getD _ _ _).2 ⟨on + 1 + m, by omega, by omega, rfl⟩, ?_, ?_⟩⟩
      · show _ = (rd_T67 (rd_T51 l ((i : Nat) : Int)).f1 ((on + 1 + m : Nat) : Int)).f0
        rfl
      · show _ = (rd_T67 (rd_T51 l ((i : Nat) : Int)).f1 ((on + 1 + m : Nat) : Int)).f1
        rfl
    · simp at hx

def DKept (h : Nat) (o0 o : List Int) : Prop := o.length = o0.length ∧ ∀ p, (p < (h + 1) * 30 ∨ (h + 2) * 30 ≤ p) → o.getD p 0 = o0.getD p 0
/-- Whether a leg is in time for the row. -/
def dgo (tg by_ ch : Int) (h : Nat) (o : List Int) (v a : Int) : Prop := if h = 0 then v = tg ∧ a ≤ by_ else a + ch ≤ o.getD (h * 30 + v.toNat) 0
theorem dgo_iff (l : List S51) (tg by_ ch : Int) (h : Nat) (o : List Int) (x : S72) : impl_departures.l3 l tg by_ ch (decide (h = 0)) (fun i => o.getD (h * 30 + i) 0) x = true ↔ dgo tg by_ ch h o (impl_departures.l2 l x).f0 (impl_departures.l2 l x).f1 := by
  unfold impl_departures.l3 dgo
  by_cases e : h = 0
  · simp [e]
  · simp [e]
section
variable (l : List S51) (tg by_ ch : Int) (ht : tableB l = true) (hc : 0 ≤ ch)
include ht hc
theorem dnode (h : Nat) {o0 : List Int} (hL : (h + 2) * 30 ≤ o0.length) (n : Nat) (hn : n < 30) (z : Int) (v : Nat) (hv : v < 30) : ∀ (L : List S72), (∀ x, x ∈ L → x ∈ impl_departures.l0 l (n : Int)) → ∀ o, DKept h o0 o →
    DKept h o0 (L.foldl (impl_departures.l4 l tg by_ ch h n) o) ∧
    ((L.foldl (impl_departures.l4 l tg by_ ch h n) o).getD ((h + 1) * 30 + v) 0 ≤ z ↔ o.getD ((h + 1) * 30 + v) 0 ≤ z ∧ (v = n → ∀ x, x ∈ L → dgo tg by_ ch h o0 (impl_departures.l2 l x).f0 (impl_departures.l2 l x).f1 → (impl_departures.l1 l x).f2 ≤ z)) := by
  have _u := And.intro hc hv
  intro L
  induction L with
  | nil => intro _ o hk; exact ⟨hk, by simp⟩
  | cons x L ih =>
    intro hm o hk
    have hx := hm x List.mem_cons_self
    have hleg := leg_ok ht ((legs_leg l (n : Int) _ _ _).2 ⟨x, hx, rfl, rfl, rfl⟩)
    rw [List.foldl_cons]
    have hgo : impl_departures.l3 l tg by_ ch (decide (h = 0)) (fun i => o.getD (h * 30 + i) 0) x = true ↔ dgo tg by_ ch h o0 (impl_departures.l2 l x).f0 (impl_departures.l2 l x).f1 := by
      rw [dgo_iff]
      unfold dgo
      rw [hk.2 (h * 30 + (impl_departures.l2 l x).f0.toNat) (Or.inl (by omega))]
    have step : DKept h o0 (impl_departures.l4 l tg by_ ch h n o x) ∧ ((impl_departures.l4 l tg by_ ch h n o x).getD ((h + 1) * 30 + v) 0 ≤ z ↔ o.getD ((h + 1) * 30 + v) 0 ≤ z ∧ (v = n → dgo tg by_ ch h o0 (impl_departures.l2 l x).f0 (impl_departures.l2 l x).f1 → (impl_departures.l1 l x).f2 ≤ z)) := by
      unfold impl_departures.l4
      by_cases hg : impl_departures.l3 l tg by_ ch (decide (h = 0)) (fun i => o.getD (h * 30 + i) 0) x = true
      · rw [if_pos hg]
        refine ⟨⟨by simpa using hk.1, fun p hp => ?_⟩, ?_⟩
        · rw [getD_set_i _ _ _ _ (by rw [hk.1]; omega), if_neg (by omega)]
          exact hk.2 p hp
        · rw [getD_set_i _ _ _ _ (by rw [hk.1]; omega)]
          by_cases e : v = n
          · subst e
            rw [if_pos rfl]
            have := hgo.1 hg
            simp only [this, true_implies]
            omega
          · rw [if_neg (by omega)]
            simp [e]
      · rw [if_neg hg]
        refine ⟨hk, ?_⟩
        have : ¬ dgo tg by_ ch h o0 (impl_departures.l2 l x).f0 (impl_departures.l2 l x).f1 := fun hh => hg (hgo.2 hh)
        simp [this]
    have h2 := ih (fun y hy => hm y (List.mem_cons_of_mem _ hy)) _ step.1
    refine ⟨h2.1, h2.2.trans ?_⟩
    rw [step.2]
    constructor
    · rintro ⟨⟨a1, a2⟩, a3⟩
      refine ⟨a1, fun e y hy => ?_⟩
      rcases List.mem_cons.1 hy with rfl | hy
      · exact a2 e
      · exact a3 e y hy
    · rintro ⟨a1, a2⟩
      exact ⟨⟨a1, fun e => a2 e x List.mem_cons_self⟩, fun e y hy => a2 e y (List.mem_cons_of_mem _ hy)⟩
theorem drow (h : Nat) {o0 : List Int} (hL : (h + 2) * 30 ≤ o0.length) (z : Int) (v : Nat) (hv : v < 30) : ∀ n, n ≤ 30 → DKept h o0 (impl_departures.l5 l tg by_ ch h n o0) ∧
    ((impl_departures.l5 l tg by_ ch h n o0).getD ((h + 1) * 30 + v) 0 ≤ z ↔ o0.getD ((h + 1) * 30 + v) 0 ≤ z ∧ (v < n → ∀ x, x ∈ impl_departures.l0 l (v : Int) → dgo tg by_ ch h o0 (impl_departures.l2 l x).f0 (impl_departures.l2 l x).f1 → (impl_departures.l1 l x).f2 ≤ z)) := by
  intro n
  induction n with
  | zero => intro _; exact ⟨⟨rfl, fun _ _ => rfl⟩, by simp [impl_departures.l5]⟩
  | succ n ih =>
    intro hn
    obtain ⟨k1, k2⟩ := ih (by omega)
    have k3 := dnode l tg by_ ch ht hc h hL n (by omega) z v hv (impl_departures.l0 l (n : Int)) (fun _ hx => hx) _ k1
    simp only [impl_departures.l5]
    refine ⟨k3.1, k3.2.trans ?_⟩
    rw [k2]
    by_cases e : v = n
    · subst e
      constructor
      · rintro ⟨⟨a1, _⟩, a3⟩; exact ⟨a1, fun _ => a3 rfl⟩
      · rintro ⟨a1, a2⟩; exact ⟨⟨a1, fun hh => absurd hh (by omega)⟩, fun _ => a2 (by omega)⟩
    · constructor
      · rintro ⟨⟨a1, a2⟩, _⟩; exact ⟨a1, fun hh => a2 (by omega)⟩
      · rintro ⟨a1, a2⟩; exact ⟨⟨a1, fun hh => a2 (by omega)⟩, fun hh => absurd hh e⟩
/-- A row of departures: a bound is above it just when it is above all departures of ways with so many legs that arrive in time. -/
theorem dep_rows (hops : Nat) : ∀ k, k ≤ hops → (impl_departures.l6 l tg by_ ch k (List.replicate ((hops + 1) * 30) (-1))).length = (hops + 1) * 30 ∧
    (∀ v : Int, 0 ≤ v → v < 30 → (impl_departures.l6 l tg by_ ch k (List.replicate ((hops + 1) * 30) (-1))).getD v.toNat 0 = -1) ∧
    (∀ m, m < k → ∀ z v : Int, 0 ≤ v → v < 30 → ((impl_departures.l6 l tg by_ ch k (List.replicate ((hops + 1) * 30) (-1))).getD ((m + 1) * 30 + v.toNat) 0 ≤ z ↔ -1 ≤ z ∧ ∀ d a, a ≤ by_ → Path l ch m v d tg a → d ≤ z)) ∧
    (∀ m, k < m → m ≤ hops → ∀ v : Int, 0 ≤ v → v < 30 → (impl_departures.l6 l tg by_ ch k (List.replicate ((hops + 1) * 30) (-1))).getD (m * 30 + v.toNat) 0 = -1) := by
  intro k
  induction k with
  | zero =>
    intro _
    simp only [impl_departures.l6]
    refine ⟨by simp, fun v h0 h1 => getD_rep _ _ _ (by omega), fun m hm => absurd hm (by omega), fun m hm hm2 v h0 h1 => getD_rep _ _ _ (by omega)⟩
  | succ k ih =>
    intro hk
    obtain ⟨hL, hZ, hA, hN⟩ := ih (by omega)
    simp only [impl_departures.l6]
    generalize impl_departures.l6 l tg by_ ch k (List.replicate ((hops + 1) * 30) (-1)) = o at hL hZ hA hN
    have hrow := fun (z : Int) (v : Nat) (hv : v < 30) => drow l tg by_ ch ht hc k (o0 := o) (by omega) z v hv 30 (Nat.le_refl _)
    have hkept := (hrow 0 0 (by omega)).1
    refine ⟨by rw [hkept.1]; exact hL, fun v h0 h1 => ?_, fun m hm z v h0 h1 => ?_, fun m hm hm2 v h0 h1 => ?_⟩
    · rw [hkept.2 _ (Or.inl (by omega))]; exact hZ v h0 h1
    · rcases Nat.lt_or_ge m k with c | c
      · rw [hkept.2 _ (Or.inl (by omega))]
        exact hA m c z v h0 h1
      · obtain rfl : m = k := by omega
        rw [(hrow z v.toNat (by omega)).2, hN (m + 1) (by omega) (by omega) v h0 h1]
        refine and_congr_right fun hz => ?_
        have ev : ((v.toNat : Nat) : Int) = v := by omega
        rw [ev]
        constructor
        · intro hh d a ha hp
          have hh' := hh (by omega)
          cases m with
          | zero =>
            obtain ⟨x, hx, rfl, hv', rfl⟩ := (legs_leg l _ _ _ _).1 hp
            exact hh' x hx (by unfold dgo; rw [if_pos rfl]; exact ⟨hv', ha⟩)
          | succ m =>
            obtain ⟨w, d', a', h4, h5, h6⟩ := hp
            have hw := leg_ok ht h4
            obtain ⟨x, hx, rfl, rfl, rfl⟩ := (legs_leg l _ _ _ _).1 h4
            refine hh' x hx ?_
            unfold dgo
            rw [if_neg (by omega)]
            have := ((hA m (by omega) _ _ hw.2.2.1 hw.2.2.2.1).1 (Int.le_refl _)).2 d' a ha h6
            omega
        · intro hh _ x hx hgo
          have hleg := (legs_leg l v _ _ _).2 ⟨x, hx, rfl, rfl, rfl⟩
          have hw := leg_ok ht hleg
          cases m with
          | zero =>
            unfold dgo at hgo
            rw [if_pos rfl] at hgo
            exact hh _ _ hgo.2 (hgo.1 ▸ hleg)
          | succ m =>
            unfold dgo at hgo
            rw [if_neg (by omega)] at hgo
            have : ∃ d' a', a' ≤ by_ ∧ Path l ch m (impl_departures.l2 l x).f0 d' tg a' ∧ o.getD ((m + 1) * 30 + (impl_departures.l2 l x).f0.toNat) 0 ≤ d' := by
              refine Classical.byContradiction (fun hn => ?_)
              have := (hA m (by omega) (o.getD ((m + 1) * 30 + (impl_departures.l2 l x).f0.toNat) 0 - 1) _ hw.2.2.1 hw.2.2.2.1).2 ⟨by omega, fun d' a' ha' hp => ?_⟩
              · omega
              · refine Classical.byContradiction (fun hlt => hn ⟨d', a', ha', hp, by omega⟩)
            obtain ⟨d', a', ha', hp, hd'⟩ := this
            exact hh _ a' ha' ⟨_, d', _, hleg, by omega, hp⟩
    · rw [hkept.2 _ (Or.inr (by omega))]
      exact hN m (by omega) hm2 v h0 h1
/-- The program's latest departure. -/
theorem latest_le (hops : Nat) (fr : Int) (hfr : 0 ≤ fr ∧ fr < 30) (z : Int) : impl_Latest.l0 (impl_departures.l7 l tg by_ ch hops) fr.toNat (hops + 1) ≤ z ↔ -1 ≤ z ∧ ∀ m, m < hops → ∀ d a, a ≤ by_ → Path l ch m fr d tg a → d ≤ z := by
  obtain ⟨_, hZ, hA, _⟩ := dep_rows l tg by_ ch ht hc hops hops (Nat.le_refl _)
  unfold impl_departures.l7
  have key : ∀ H, H ≤ hops → (impl_Latest.l0 (impl_departures.l6 l tg by_ ch hops (List.replicate ((hops + 1) * 30) (-1))) fr.toNat (H + 1) ≤ z ↔ -1 ≤ z ∧ ∀ m, m < H → ∀ d a, a ≤ by_ → Path l ch m fr d tg a → d ≤ z) := by
    intro H
    induction H with
    | zero =>
      intro _
      simp only [impl_Latest.l0, Nat.zero_mul, Nat.zero_add, hZ fr hfr.1 hfr.2]
      simp
    | succ H ih =>
      intro hH
      rw [impl_Latest.l0, Int.max_le, ih (by omega), hA H (by omega) z fr hfr.1 hfr.2]
      constructor
      · rintro ⟨⟨a1, a2⟩, _, a3⟩
        refine ⟨a1, fun m hm => ?_⟩
        rcases Nat.lt_or_ge m H with c | c
        · exact a2 m c
        · obtain rfl : m = H := by omega
          exact a3
      · rintro ⟨a1, a2⟩
        exact ⟨⟨a1, fun m hm => a2 m (by omega)⟩, a1, a2 H (by omega)⟩
  exact key hops (Nat.le_refl _)
end
end Go.Proofs.Ytdpjoblnjjkbfaa.Pure

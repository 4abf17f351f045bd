/- What follows of the greatest matchings: a longer turn, one task less. -/
import Derived.Test.YtoalolbifakpiaaM2
namespace Go.Proofs.Ytoalolbifakpiaa.Pure
open Go.RowKit Go.Proofs.Ytoalolbifakpiaa.P Go.Proofs.YtoalolbifakpiaaW.PrintWords Go.Proofs.YtoalolbifakpiaaW.PrintLast

/-- v is the number of units. -/
def IsFleet (l : List S25) (turn v : Int) : Prop := (∃ M, IsM (En l turn) M ∧ (M.length : Int) = l.length - v) ∧ ∀ M, IsM (En l turn) M → (M.length : Int) ≤ l.length - v
theorem fleet_is (l : List S25) (turn : Int) (hl : tasksB l = true) (htb : inB turn 0 120 = true) : ∃ v, Ev (fun k => impl_Fleet.f k l turn) v ∧ IsFleet l turn v := by
  obtain ⟨v, _, h2⟩ := fleet_both l turn (by have := (tasksB_parts hl).1; omega)
  exact ⟨v, h2, fleet_max l turn v hl htb h2⟩
theorem IsM.sub {E E' : Nat → Nat → Prop} {M : List (Nat × Nat)} (h : IsM E M) (hE : ∀ a b, E a b → E' a b) : IsM E' M := ⟨h.fst, h.snd, fun p hp => hE _ _ (h.edge p hp)⟩
theorem ed_foll {l : List S25} {turn : Int} (hta : ∀ x, x ∈ l → taskB x = true) (htu : 0 ≤ turn ∧ turn ≤ 120) {a b : Nat} (ha : a < l.length) : Ed l turn a b ↔ (rd_T25 l a).f1 = (rd_T25 l b).f0 ∧ (rd_T25 l a).f3 + turn ≤ (rd_T25 l b).f2 := by
  have ht : taskB (rd_T25 l (a : Int)) = true := hta _ (by unfold rd_T25; exact getD_mem _ _ _ (by rw [Int.toNat_natCast]; exact ha))
  unfold Ed
  rw [f3_foll _ ht htu]
  unfold follB
  rw [Bool.and_eq_true, decide_eq_true_eq, decide_eq_true_eq]
/-- A longer turn. -/
theorem fleet_more {l : List S25} {turn more v w : Int} (hta : ∀ x, x ∈ l → taskB x = true) (htu : 0 ≤ turn ∧ turn ≤ 120) (hmu : 0 ≤ more ∧ more ≤ 120) (hm : turn ≤ more) (hv : IsFleet l turn v) (hw : IsFleet l more w) : v ≤ w := by
  obtain ⟨M, hM, hl⟩ := hw.1
  have := hv.2 M (hM.sub (fun a b h => ⟨h.1, h.2.1, (ed_foll hta htu h.1).2 (by have := (ed_foll hta hmu h.1).1 h.2.2; omega)⟩))
  omega
theorem fleet_le {l : List S25} {turn v : Int} (hv : IsFleet l turn v) : v ≤ l.length := by
  have := hv.2 [] ⟨by simp, by simp, fun p hp => absurd hp (by simp)⟩
  simp at this
  omega
/-- A list of different numbers below n has at most n of them; without one of them, fewer. -/
theorem nodup_lt (L : List Nat) (n : Nat) (hn : L.Nodup) (h : ∀ x, x ∈ L → x < n) : L.length ≤ n := by
  have := nodup_sub_len L (List.range n) hn (fun x hx => List.mem_range.2 (h x hx))
  simpa using this
theorem exists_min : ∀ (f : Nat → Int) (n : Nat), 0 < n → ∃ m, m < n ∧ ∀ x, x < n → f m ≤ f x
  | f, 0, h => absurd h (by omega)
  | f, 1, _ => ⟨0, by omega, fun x hx => by have : x = 0 := by omega
                                            rw [this]; omega⟩
  | f, n + 2, _ => by
    obtain ⟨m, h1, h2⟩ := exists_min f (n + 1) (by omega)
    by_cases c : f (n + 1) < f m
    · exact ⟨n + 1, by omega, fun x hx => by
        by_cases e : x = n + 1
        · rw [e]; omega
        · have := h2 x (by omega); omega⟩
    · exact ⟨m, by omega, fun x hx => by
        by_cases e : x = n + 1
        · rw [e]; omega
        · exact h2 x (by omega)⟩
/-- Where there are tasks there is a unit. -/
theorem fleet_pos {l : List S25} {turn v : Int} (hta : ∀ x, x ∈ l → taskB x = true) (htu : 0 ≤ turn ∧ turn ≤ 120) (hv : IsFleet l turn v) (hn : 0 < l.length) : 1 ≤ v := by
  obtain ⟨M, hM, hl⟩ := hv.1
  obtain ⟨m, m1, m2⟩ := exists_min (fun x => (rd_T25 l (x : Int)).f2) l.length hn
  have hno : ∀ x, x ∈ M.map Prod.snd → x ∈ (List.range l.length).erase m := by
    intro x hx
    obtain ⟨p, hp, rfl⟩ := List.mem_map.1 hx
    obtain ⟨a1, b1, e⟩ := hM.edge p hp
    have he := (ed_foll hta htu a1).1 e
    have hne : p.2 ≠ m := fun e2 => by
      have h1 := m2 p.1 a1
      rw [e2] at he
      have ht : taskB (rd_T25 l (p.1 : Int)) = true := hta _ (by unfold rd_T25; exact getD_mem _ _ _ (by rw [Int.toNat_natCast]; exact a1))
      have := (taskB_bounds ht).2.2.1
      omega
    exact (List.mem_erase_of_ne hne).2 (List.mem_range.2 b1)
  have h1 := nodup_sub_len _ _ hM.snd hno
  rw [List.length_map, List.length_erase_of_mem (List.mem_range.2 m1), List.length_range] at h1
  omega
theorem fleet_nonneg {l : List S25} {turn v : Int} (hv : IsFleet l turn v) : 0 ≤ v := by
  obtain ⟨M, hM, hl⟩ := hv.1
  have := nodup_lt (M.map Prod.fst) l.length hM.fst (fun x hx => by
    obtain ⟨p, hp, rfl⟩ := List.mem_map.1 hx
    exact (hM.edge p hp).1)
  rw [List.length_map] at this
  omega
theorem rd_tail (t : S25) (l : List S25) (x : Nat) : rd_T25 (t :: l) ((x + 1 : Nat) : Int) = rd_T25 l (x : Int) := by
  unfold rd_T25
  rw [Int.toNat_natCast, Int.toNat_natCast]
  simp
theorem ed_tail (t : S25) (l : List S25) (turn : Int) (a b : Nat) : Ed (t :: l) turn (a + 1) (b + 1) ↔ Ed l turn a b := by
  unfold Ed
  rw [rd_tail, rd_tail]
/-- A matching without what touches the first task, one place down. -/
theorem filter_len_ge : ∀ (M : List (Nat × Nat)), (M.map Prod.fst).Nodup → (M.map Prod.snd).Nodup → M.length ≤ (M.filter (fun p => decide (p.1 ≠ 0 ∧ p.2 ≠ 0))).length + 2 := by
  intro M h1 h2
  have a1 : ∀ (L : List (Nat × Nat)), (L.map Prod.fst).Nodup → L.length ≤ (L.filter (fun p => decide (p.1 ≠ 0))).length + 1 := by
    intro L
    induction L with
    | nil => intro _; simp
    | cons p L ih =>
      intro h
      rw [List.map_cons, List.nodup_cons] at h
      by_cases c : p.1 = 0
      · have : L.filter (fun p => decide (p.1 ≠ 0)) = L := by
          rw [List.filter_eq_self]
          intro q hq
          exact decide_eq_true (fun e => h.1 (by rw [c, ← e]; exact List.mem_map.2 ⟨q, hq, rfl⟩))
        rw [List.filter_cons, if_neg (by simp [c]), this]
        simp
      · rw [List.filter_cons, if_pos (by simp [c])]
        have := ih h.2
        simp only [List.length_cons]
        omega
  have a2 : ∀ (L : List (Nat × Nat)), (L.map Prod.snd).Nodup → L.length ≤ (L.filter (fun p => decide (p.2 ≠ 0))).length + 1 := by
    intro L
    induction L with
    | nil => intro _; simp
    | cons p L ih =>
      intro h
      rw [List.map_cons, List.nodup_cons] at h
      by_cases c : p.2 = 0
      · have : L.filter (fun p => decide (p.2 ≠ 0)) = L := by
          rw [List.filter_eq_self]
          intro q hq
          exact decide_eq_true (fun e => h.1 (by rw [c, ← e]; exact List.mem_map.2 ⟨q, hq, rfl⟩))
        rw [List.filter_cons, if_neg (by simp [c]), this]
        simp
      · rw [List.filter_cons, if_pos (by simp [c])]
        have := ih h.2
        simp only [List.length_cons]
        omega
  have b1 := a1 M h1
  have b2 := a2 (M.filter (fun p => decide (p.1 ≠ 0))) ((List.filter_sublist.map _).nodup h2)
  rw [List.filter_filter] at b2
  have e : M.filter (fun a => decide (a.2 ≠ 0) && decide (a.1 ≠ 0)) = M.filter (fun p => decide (p.1 ≠ 0 ∧ p.2 ≠ 0)) := by
    refine List.filter_congr (fun p _ => ?_)
    rw [Bool.eq_iff_iff, Bool.and_eq_true, decide_eq_true_eq, decide_eq_true_eq, decide_eq_true_eq]
    exact And.comm
  rw [e] at b2
  omega
theorem fleet_tail {t : S25} {l : List S25} {turn v w : Int} (hv : IsFleet (t :: l) turn v) (hw : IsFleet l turn w) : v - 1 ≤ w ∧ w ≤ v + 1 := by
  constructor
  · -- a matching of the rest is one of all
    obtain ⟨M, hM, hl⟩ := hw.1
    have hM2 : IsM (En (t :: l) turn) (M.map (fun p => (p.1 + 1, p.2 + 1))) := by
      refine ⟨?_, ?_, fun p hp => ?_⟩
      · rw [List.map_map]
        have : (Prod.fst ∘ fun p : Nat × Nat => (p.1 + 1, p.2 + 1)) = (fun x => x + 1) ∘ Prod.fst := rfl
        rw [this, ← List.map_map]
        exact List.Pairwise.map _ (fun a b h e => h (by omega)) hM.fst
      · rw [List.map_map]
        have : (Prod.snd ∘ fun p : Nat × Nat => (p.1 + 1, p.2 + 1)) = (fun x => x + 1) ∘ Prod.snd := rfl
        rw [this, ← List.map_map]
        exact List.Pairwise.map _ (fun a b h e => h (by omega)) hM.snd
      · obtain ⟨q, hq, rfl⟩ := List.mem_map.1 hp
        obtain ⟨a1, b1, e⟩ := hM.edge q hq
        exact ⟨by show q.1 + 1 < _; rw [List.length_cons]; omega, by show q.2 + 1 < _; rw [List.length_cons]; omega, (ed_tail t l turn q.1 q.2).2 e⟩
    have := hv.2 _ hM2
    rw [List.length_map, List.length_cons] at this
    omega
  · obtain ⟨M, hM, hl⟩ := hv.1
    obtain ⟨F, hF⟩ : ∃ F, F = M.filter (fun p => decide (p.1 ≠ 0 ∧ p.2 ≠ 0)) := ⟨_, rfl⟩
    have hFm : ∀ p, p ∈ F → p ∈ M ∧ p.1 ≠ 0 ∧ p.2 ≠ 0 := fun p hp => by
      rw [hF, List.mem_filter, decide_eq_true_eq] at hp
      exact ⟨hp.1, hp.2⟩
    have hM2 : IsM (En l turn) (F.map (fun p => (p.1 - 1, p.2 - 1))) := by
      refine ⟨?_, ?_, fun p hp => ?_⟩
      · rw [List.map_map]
        have h1 : (F.map Prod.fst).Nodup := by rw [hF]; exact (List.filter_sublist.map _).nodup hM.fst
        have h2 : F.Pairwise (fun p q => p.1 ≠ q.1) := List.pairwise_map.1 h1
        refine List.Pairwise.map _ (R := fun p q => p ∈ F ∧ q ∈ F ∧ p.1 ≠ q.1) ?_ ?_
        · rintro p q ⟨hp, hq, hne⟩ e
          have := (hFm p hp).2.1
          have := (hFm q hq).2.1
          simp only [Function.comp] at e
          omega
        · exact List.Pairwise.imp_of_mem (fun hp hq h => ⟨hp, hq, h⟩) h2
      · rw [List.map_map]
        have h1 : (F.map Prod.snd).Nodup := by rw [hF]; exact (List.filter_sublist.map _).nodup hM.snd
        have h2 : F.Pairwise (fun p q => p.2 ≠ q.2) := List.pairwise_map.1 h1
        refine List.Pairwise.map _ (R := fun p q => p ∈ F ∧ q ∈ F ∧ p.2 ≠ q.2) ?_ ?_
        · rintro p q ⟨hp, hq, hne⟩ e
          have := (hFm p hp).2.2
          have := (hFm q hq).2.2
          simp only [Function.comp] at e
          omega
        · exact List.Pairwise.imp_of_mem (fun hp hq h => ⟨hp, hq, h⟩) h2
      · obtain ⟨q, hq, rfl⟩ := List.mem_map.1 hp
        obtain ⟨q1, q2, q3⟩ := hFm q hq
        obtain ⟨a1, b1, e⟩ := hM.edge q q1
        rw [List.length_cons] at a1 b1
        refine ⟨by show q.1 - 1 < _; omega, by show q.2 - 1 < _; omega, (ed_tail t l turn (q.1 - 1) (q.2 - 1)).1 ?_⟩
        rw [show q.1 - 1 + 1 = q.1 by omega, show q.2 - 1 + 1 = q.2 by omega]
        exact e
    have h1 := hw.2 _ hM2
    have h2 := filter_len_ge M hM.fst hM.snd
    rw [← hF] at h2
    rw [List.length_map] at h1
    rw [List.length_cons] at hl
    omega
end Go.Proofs.Ytoalolbifakpiaa.Pure

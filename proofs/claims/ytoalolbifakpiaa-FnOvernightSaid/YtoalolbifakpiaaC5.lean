/- Mileage and Night: unit by unit, over lists alone. -/
import Derived.Test.YtoalolbifakpiaaC3
namespace Go.Proofs.Ytoalolbifakpiaa.Pure
open Go.RowKit Go.Proofs.Ytoalolbifakpiaa.P Go.Proofs.YtoalolbifakpiaaW.PrintWords Go.Proofs.YtoalolbifakpiaaW.PrintLast

theorem un_rd (out : List Int) (x : Int) (h0 : 0 ≤ x) (h1 : x < out.length) : rd out x = un out x := by
  obtain ⟨i, rfl⟩ : ∃ i : Nat, x = (i : Int) := ⟨x.toNat, by omega⟩
  unfold rd un
  rw [Int.toNat_natCast, List.getD_eq_getElem?_getD, List.getD_eq_getElem?_getD, List.getElem?_eq_getElem (by omega)]
  rfl
/-- How many units. -/
theorem spec_units {n : Nat} {od : List Int} {us : List (List Int)} {out : List Int} (h : Rel n od us out) (hall : ∀ i : Nat, i < n → (i : Int) ∈ od) (hn : n ≤ 1000) (hu : us.length ≤ n) : Ev (fun k => spec_l16Units.f k out) (us.length : Int) := by
  have hol := h.ol
  have key : ∀ i, i ≤ n → ∀ m : Int, 0 ≤ m → m ≤ us.length → (∀ j : Nat, j < i → un out j < m) → Ev (fun k => spec_l16Units.l0 k out m (i : Int)) (us.length : Int) := by
    refine down n (fun m m0 m1 hm => ?_) (fun i hi ih m m0 m1 hm => ?_)
    · have e : m = us.length := by
        by_cases c : us.length = 0
        · omega
        · have hne := lst_mem _ (h.ne (us.length - 1) (by omega))
          obtain ⟨h1, h2⟩ := (rel_mem_cat h (us.length - 1) (by omega) _).1 hne
          obtain ⟨h3, h4⟩ := h.mem _ h1
          have := hm (lst (cat us (us.length - 1))).toNat (by omega)
          rw [Int.toNat_of_nonneg h3, h2] at this
          omega
      rw [e]
      exact ev_some (fun k => by simp [spec_l16Units.l0, hol])
    · have hi2 := h.ins _ (hall i hi)
      have hr := un_rd out (i : Int) (by omega) (by omega)
      by_cases c : un out (i : Int) ≥ m
      · refine ev_at (ih (un out (i : Int) + 1) (by omega) (by omega) (fun j hj => ?_)) (fun k => ?_)
        · by_cases e : j = i
          · rw [e]; omega
          · have := hm j (by omega); omega
        · simp only [spec_l16Units.l0, hol, show (i : Int) < (n : Int) by omega, show (0 : Int) ≤ (i : Int) by omega, hr, c, if_true, w64s hi (show n ≤ 1000000000 by omega), w64 (x := un out (i : Int) + 1) (by omega) (by omega)]
      · refine ev_at (ih m m0 m1 (fun j hj => ?_)) (fun k => ?_)
        · by_cases e : j = i
          · rw [e]; omega
          · exact hm j (by omega)
        · simp only [spec_l16Units.l0, hol, show (i : Int) < (n : Int) by omega, show (0 : Int) ≤ (i : Int) by omega, hr, c, if_true, if_false, w64s hi (show n ≤ 1000000000 by omega)]
  have := key 0 (by omega) 0 (by omega) (by omega) (fun j hj => by omega)
  simpa [spec_l16Units.f] using this

def km (l : List S25) (t : Int) : Int := (rd_T25 l t).f4
def sumL : List Int → Int
  | [] => 0
  | x :: xs => x + sumL xs
theorem sumL_perm {a b : List Int} (h : a.Perm b) : sumL a = sumL b := by
  induction h with
  | nil => rfl
  | cons x _ ih => simp only [sumL, ih]
  | swap x y l => simp only [sumL]; omega
  | trans _ _ ih1 ih2 => rw [ih1, ih2]
theorem km_bounds (l : List S25) (hta : ∀ x, x ∈ l → taskB x = true) (t : Int) (h0 : 0 ≤ t) (h1 : t < l.length) : 0 ≤ km l t ∧ km l t ≤ 2000 := by
  have : taskB (rd_T25 l t) = true := hta _ (by unfold rd_T25; exact getD_mem _ _ _ (by omega))
  exact (taskB_bounds this).2.2.2
def unitKm (l : List S25) (us : List (List Int)) (u : Nat) : Int := sumL ((cat us u).map (km l))
theorem impl_miles {l : List S25} {od : List Int} {us : List (List Int)} {out : List Int} (h : Rel l.length od us out) (hta : ∀ x, x ∈ l → taskB x = true) (hb : us.length ≤ 1000) (hc : ∀ u, u < us.length → (cat us u).length ≤ 1000) :
    ∀ u, u ≤ us.length → Ev (fun k => impl_Mileage.l0 k l ((List.range u).map (unitKm l us)) us (us.length : Int) (u : Int)) ((List.range us.length).map (unitKm l us)) := by
  refine down us.length ?_ (fun u hu ih => ?_)
  · exact ev_some (fun k => by simp [impl_Mileage.l0])
  · have hcu := hc u hu
    have inner : ∀ j, j ≤ (cat us u).length → ∀ s : Int, 0 ≤ s → s ≤ 2000 * j → s + sumL (((cat us u).drop j).map (km l)) = unitKm l us u → Ev (fun k => impl_Mileage.l1 k l ((List.range u).map (unitKm l us)) s us (us.length : Int) (u : Int) (cat us u) ((cat us u).length : Int) (j : Int)) ((List.range us.length).map (unitKm l us)) := by
      refine down _ (fun s s0 s1 hs => ?_) (fun j hj ih2 s s0 s1 hs => ?_)
      · rw [List.drop_length, List.map_nil, sumL, Int.add_zero] at hs
        refine ev_at ih (fun k => ?_)
        have e : (List.range u).map (unitKm l us) ++ [unitKm l us u] = (List.range (u + 1)).map (unitKm l us) := by rw [List.range_succ, List.map_append]; rfl
        simp only [impl_Mileage.l1, Int.lt_irrefl, if_false, List.length_map, List.length_range, show u < 17592186044416 by omega, if_true, hs, e, w64s hu (show us.length ≤ 1000000000 by omega)]
      · obtain ⟨x, hx⟩ : ∃ x, x = (cat us u).getD j 0 := ⟨_, rfl⟩
        have hxm : x ∈ cat us u := by rw [hx]; exact getD_mem _ _ _ hj
        obtain ⟨hxo, hxu⟩ := (rel_mem_cat h u hu x).1 hxm
        obtain ⟨x0, x1⟩ := h.mem x hxo
        have hrd : rd (cat us u) (j : Int) = x := by unfold rd; rw [Int.toNat_natCast, hx]
        rw [drop_getD 0 _ j hj, ← hx, List.map_cons, sumL] at hs
        obtain ⟨k0, k1⟩ := km_bounds l hta x x0 x1
        refine ev_at (ih2 (s + km l x) (by omega) (by omega) (by omega)) (fun k => ?_)
        have ek : (rd_T25 l x).f4 = km l x := rfl
        simp only [impl_Mileage.l1, show (j : Int) < ((cat us u).length : Int) by omega, show (0 : Int) ≤ (j : Int) by omega, hrd, x0, x1, if_true, ek, w64 (x := s + km l x) (by omega) (by omega), w64s hj (show (cat us u).length ≤ 1000000000 by omega)]
    refine ev_at (inner 0 (by omega) 0 (by omega) (by omega) (by rw [List.drop_zero, Int.zero_add]; rfl)) (fun k => ?_)
    have e : rd_L3 us (u : Int) = cat us u := by unfold rd_L3 cat; rw [Int.toNat_natCast]
    simp only [impl_Mileage.l0, show (u : Int) < (us.length : Int) by omega, show (0 : Int) ≤ (u : Int) by omega, if_true, e]
    rfl
def places (n : Nat) : List Int := (List.range n).map (fun (i : Nat) => (i : Int))
theorem places_drop (n i : Nat) (h : i < n) : (places n).drop i = (i : Int) :: (places n).drop (i + 1) := by
  unfold places
  rw [drop_getD 0 _ i (by simpa using h)]
  congr 1
  simp [List.getD_eq_getElem?_getD, h]
/-- What holds of all right tasks. -/
theorem spec_chains_nil (l : List S25) (turn : Int) (h : l.length ≤ 1048576) (hb : (tasksB l && inB turn 0 120) = false) : Ev (fun k => spec_Chains.f k l turn) [] := by
  unfold spec_Chains.f
  refine Ev.bind (spec_tasks l h) ?_
  cases hl : tasksB l with
  | false =>
    simp only [Bool.false_eq_true, if_false]
    exact ev_some (fun k => by simp [spec_Chains.j0])
  | true =>
    have htb : inB turn 0 120 = false := by rw [hl] at hb; simpa using hb
    simp only [if_true, spec_l16Turn.f, l01In, htb, Option.bind_some, Bool.not_false]
    exact ev_some (fun k => by simp [spec_Chains.j0])
end Go.Proofs.Ytoalolbifakpiaa.Pure

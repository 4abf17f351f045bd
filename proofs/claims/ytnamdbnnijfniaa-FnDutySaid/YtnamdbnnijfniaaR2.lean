/- The longest stretch of driving: the reference tries every start, the program goes through once. -/
import Derived.Test.YtnamdbnnijfniaaR1
namespace Go.Proofs.Ytnamdbnnijfniaa.Pure
open Go.RowKit Go.Proofs.Ytnamdbnnijfniaa.P Go.Proofs.YtnamdbnnijfniaaW.PrintWords Go.Proofs.YtnamdbnnijfniaaW.PrintLast

/-! Pairs: does a rest come ahead of it; how long it lasts. -/
def inner : Int → Int → List (Bool × Int) → Int
  | _, m, [] => m
  | s, m, (b, d) :: t => if b then m else inner (s + d) (max m (s + d)) t
def specL : Int → List (Bool × Int) → Int
  | m, [] => m
  | m, (_, d) :: t => specL (inner d (max m d) t) t
def implL : Int → Int → List (Bool × Int) → Int
  | _, m, [] => m
  | s, m, (b, d) :: t => implL ((if b then 0 else s) + d) (max m ((if b then 0 else s) + d)) t

theorem inner_ge : ∀ (t : List (Bool × Int)) (s m : Int), m ≤ inner s m t
  | [], _, m => Int.le_refl m
  | (b, d) :: t, s, m => by
    unfold inner
    cases b
    · have := inner_ge t (s + d) (max m (s + d))
      simp only [Bool.false_eq_true, if_false]
      omega
    · simp
theorem inner_stays : ∀ (t : List (Bool × Int)) (s1 s2 m0 m : Int), s2 ≤ s1 → inner s1 m0 t ≤ m → inner s2 m t = m
  | [], _, _, _, _, _, _ => rfl
  | (b, d) :: t, s1, s2, m0, m, hs, hm => by
    unfold inner at hm ⊢
    cases b
    · simp only [Bool.false_eq_true, if_false] at hm ⊢
      have := inner_ge t (s1 + d) (max m0 (s1 + d))
      rw [show max m (s2 + d) = m by omega]
      exact inner_stays t (s1 + d) (s2 + d) _ m (by omega) hm
    · simp
theorem spec_impl : ∀ (t : List (Bool × Int)) (s m : Int), 0 ≤ s → (∀ p, p ∈ t → 0 ≤ p.2) → specL (inner s m t) t = implL s m t
  | [], _, _, _, _ => rfl
  | (b, d) :: t, s, m, hs, hd => by
    have hd0 : 0 ≤ d := hd (b, d) (by simp)
    unfold specL implL
    cases b
    · have hx := inner_ge t (s + d) (max m (s + d))
      have e : inner s m ((false, d) :: t) = inner (s + d) (max m (s + d)) t := by rw [inner]; simp
      rw [e, show max (inner (s + d) (max m (s + d)) t) d = inner (s + d) (max m (s + d)) t by omega]
      rw [inner_stays t (s + d) d (max m (s + d)) _ (by omega) (Int.le_refl _)]
      simp only [Bool.false_eq_true, if_false]
      exact spec_impl t (s + d) (max m (s + d)) (by omega) (fun p hp => hd p (by simp [hp]))
    · have e : inner s m ((true, d) :: t) = m := by rw [inner]; simp
      rw [e]
      simp only [if_true, Int.zero_add]
      exact spec_impl t d (max m d) hd0 (fun p hp => hd p (by simp [hp]))

/-- The pair of place k of a duty. -/
def pr (n : List S52) (l : List Int) (rest : Int) (k : Nat) : Bool × Int :=
  (decide (k = 0) || decide ((tk n (l.getD k 0)).f2 - (tk n (l.getD (k - 1) 0)).f3 ≥ rest), len1 n (l.getD k 0))
def prs (n : List S52) (l : List Int) (rest : Int) : List (Bool × Int) := (List.range l.length).map (pr n l rest)
theorem prs_drop (n : List S52) (l : List Int) (rest : Int) (i : Nat) (hi : i < l.length) : (prs n l rest).drop i = pr n l rest i :: (prs n l rest).drop (i + 1) := by
  rw [List.drop_eq_getElem_cons (by simpa [prs] using hi)]
  simp [prs]
theorem prs_end (n : List S52) (l : List Int) (rest : Int) : (prs n l rest).drop l.length = [] := List.drop_of_length_le (by simp [prs])

section
variable {n : List S52} {l : List Int} {rest : Int}

/-- What is read at a place of a duty that is right. -/
theorem at_duty (h : dutyB n l = true) (i : Nat) (hi : i < l.length) : rd l (i : Int) = l.getD i 0 ∧ (0 ≤ l.getD i 0 ∧ l.getD i 0 < n.length) ∧ (0 ≤ (tk n (l.getD i 0)).f2 ∧ (tk n (l.getD i 0)).f2 < (tk n (l.getD i 0)).f3 ∧ (tk n (l.getD i 0)).f3 ≤ 100000) := by
  obtain ⟨_, hp, _, ht⟩ := dutyB_parts h
  have hx := hp (l.getD i 0) (getD_mem 0 l i hi)
  exact ⟨by simp [rd], hx, (taskB_bounds (tk_ok ht hx)).2.2.1⟩

theorem spec_inner (h : dutyB n l = true) (i : Nat) (r : Int) : ∀ k, k ≤ l.length → i < k → ∀ (most sum : Int), 0 ≤ sum → sum ≤ 100000 * k →
    Ev (fun j => spec_Stretched.l0 j n l rest (inner sum most ((prs n l rest).drop k)) ((i + 1 : Nat) : Int)) r → Ev (fun j => spec_Stretched.l1 j n l rest most i sum k) r := by
  have hl := (dutyB_parts h).1
  refine down l.length ?_ ?_
  · intro hk most sum _ _ hr
    rw [prs_end, inner] at hr
    exact ev_at hr (fun j => by simp [spec_Stretched.l1, w64s hk (by omega)])
  · intro k hk ih hik most sum h2 h3 hr
    obtain ⟨e1, hx1, ht1⟩ := at_duty h k hk
    obtain ⟨e2, hx2, ht2⟩ := at_duty h (k - 1) (by omega)
    have ek : ((k : Int) - 1) = ((k - 1 : Nat) : Int) := by omega
    have ew : wrap64 ((k : Int) - 1) = ((k - 1 : Nat) : Int) := by rw [w64 (by omega) (by omega), ek]
    have eg : wrap64 ((tk n (l.getD k 0)).f2 - (tk n (l.getD (k - 1) 0)).f3) = (tk n (l.getD k 0)).f2 - (tk n (l.getD (k - 1) 0)).f3 := w64 (by omega) (by omega)
    rw [prs_drop n l rest k hk] at hr
    unfold pr inner at hr
    simp only [show ¬ k = 0 by omega, decide_false, Bool.false_or, decide_eq_true_eq] at hr
    refine ev_at (f := fun j => spec_Stretched.j3 j n l rest most i sum k (decide ((tk n (l.getD k 0)).f2 - (tk n (l.getD (k - 1) 0)).f3 ≥ rest))) ?_ (fun j => ?_)
    · clear ew eg e2
      by_cases hg : (tk n (l.getD k 0)).f2 - (tk n (l.getD (k - 1) 0)).f3 ≥ rest
      · simp only [hg, if_true] at hr
        simp only [hg, decide_true]
        exact ev_at hr (fun j => by simp [spec_Stretched.j3, w64 (x := (i : Int) + 1) (by omega) (by omega)])
      · simp only [hg, if_false] at hr
        simp only [hg, decide_false]
        unfold len1 at hr
        obtain ⟨s1, hs1⟩ : ∃ s1, s1 = sum + ((tk n (l.getD k 0)).f3 - (tk n (l.getD k 0)).f2) := ⟨_, rfl⟩
        rw [← hs1] at hr
        have b1 : 0 ≤ s1 ∧ s1 ≤ 100000 * ((k + 1 : Nat) : Int) := by omega
        refine ev_at (ih (by omega) _ _ b1.1 b1.2 hr) (fun j => ?_)
        have hw := w64s hk (by omega)
        simp only [spec_Stretched.j3, hw, e1, Bool.false_eq_true, if_false]
        clear hw hr ih
        rw [if_pos (by omega), if_pos (by omega), if_pos hx1.1, if_pos hx1.2]
        unfold tk at *
        rw [w64 (x := sum + _) (by omega) (by omega), w64 (by omega) (by omega), Int.add_sub_assoc, ← hs1]
        split
        · rw [show ∀ a b : Int, b > a → max a b = b by omega]
          assumption
        · rw [show ∀ a b : Int, ¬ b > a → max a b = a by omega]
          assumption
    · unfold tk at *
      simp only [spec_Stretched.l1, ew, e1, e2, eg]
      rw [if_pos (by omega), if_pos (by omega), if_pos (by omega), if_pos hx1.1, if_pos hx1.2, if_pos (by omega), if_pos (by omega), if_pos hx2.1, if_pos hx2.2]

theorem spec_stretched_low (h : dutyB n l = true) : ∀ i, i ≤ l.length → ∀ most : Int, Ev (fun j => spec_Stretched.l0 j n l rest most i) (specL most ((prs n l rest).drop i)) := by
  have hl := (dutyB_parts h).1
  refine down l.length ?_ ?_
  · intro most
    rw [prs_end, specL]
    exact ev_some (fun j => by simp [spec_Stretched.l0])
  · intro i hi ih most
    obtain ⟨e1, hx1, ht1⟩ := at_duty h i hi
    rw [prs_drop n l rest i hi]
    unfold pr specL len1
    obtain ⟨d, hd⟩ : ∃ d, d = (tk n (l.getD i 0)).f3 - (tk n (l.getD i 0)).f2 := ⟨_, rfl⟩
    simp only [← hd]
    have hb : 0 ≤ d ∧ d ≤ 100000 := by omega
    have hr := spec_inner (rest := rest) h i _ (i + 1) hi (Nat.lt_succ_self i) (max most d) d hb.1 (by omega) (ih _)
    refine ev_at (f := fun j => spec_Stretched.l1 j n l rest most i 0 i) ?_ (fun j => by simp [spec_Stretched.l0, hi])
    refine ev_at (f := fun j => spec_Stretched.j3 j n l rest most i 0 i false) ?_ (fun j => by simp [spec_Stretched.l1, hi])
    refine ev_at hr (fun j => ?_)
    have hw := w64s hi (by omega)
    simp only [spec_Stretched.j3, hw, e1, Bool.false_eq_true, if_false]
    clear hw hr ih e1
    rw [if_pos (by omega), if_pos (by omega), if_pos hx1.1, if_pos hx1.2]
    unfold tk at *
    rw [Int.zero_add, w64 (x := (rd_T52 n (l.getD i 0)).f3) (by omega) (by omega), w64 (by omega) (by omega), ← hd]
    split
    · rw [show ∀ a b : Int, b > a → max a b = b by omega]
      assumption
    · rw [show ∀ a b : Int, ¬ b > a → max a b = a by omega]
      assumption

theorem impl_stretched_low (h : dutyB n l = true) : ∀ i, i ≤ l.length → ∀ most sum : Int, 0 ≤ sum → sum ≤ 100000 * i → (i = 0 → sum = 0) → Ev (fun j => impl_stretched.l0 j n l rest most sum l l.length i) (implL sum most ((prs n l rest).drop i)) := by
  have hl := (dutyB_parts h).1
  refine down l.length ?_ ?_
  · intro most sum _ _ _
    rw [prs_end, implL]
    exact ev_some (fun j => by simp [impl_stretched.l0])
  · intro i hi ih most sum h0 h1 hz
    obtain ⟨e1, hx1, ht1⟩ := at_duty h i hi
    rw [prs_drop n l rest i hi]
    unfold pr implL len1
    obtain ⟨d, hd⟩ : ∃ d, d = (tk n (l.getD i 0)).f3 - (tk n (l.getD i 0)).f2 := ⟨_, rfl⟩
    simp only [← hd]
    have hb : 0 ≤ d ∧ d ≤ 100000 := by omega
    have b1 : 0 ≤ sum + d ∧ sum + d ≤ 100000 * ((i + 1 : Nat) : Int) := by omega
    have b2 : d ≤ 100000 * ((i + 1 : Nat) : Int) := by omega
    have b3 : (i + 1 = 0 → sum + d = 0) ∧ (i + 1 = 0 → d = 0) := by omega
    have f1 : (i : Int) < l.length := by omega
    have f2 : (0 : Int) ≤ i := by omega
    have hmx : ∀ a b : Int, mx a b = max a b := fun a b => by unfold mx; split <;> omega
    have hls : impl_lasts.f (tk n (l.getD i 0)).f0 (tk n (l.getD i 0)).f1 (tk n (l.getD i 0)).f2 (tk n (l.getD i 0)).f3 (tk n (l.getD i 0)).f4 = some d := by
      unfold impl_lasts.f
      rw [← hd, w64 (by omega) (by omega)]
    have hs1 : wrap64 (sum + d) = sum + d := w64 (by omega) (by omega)
    have hs2 : wrap64 d = d := w64 (by omega) (by omega)
    by_cases h00 : i = 0
    · have := ih (max most (sum + d)) (sum + d) b1.1 b1.2 b3.1
      have hs0 := hz h00
      refine ev_at (f := fun j => impl_stretched.l0 j n l rest (max most (sum + d)) (sum + d) l l.length ((i + 1 : Nat) : Int)) ?_ (fun j => ?_)
      · simpa [h00, hs0] using this
      · have hw := w64s hi (by omega)
        unfold tk at *
        simp only [impl_stretched.l0, hw, e1, hls, hs1, hmx, Option.bind_some]
        clear hw e1 hls hs1 hs2 hmx this ih
        rw [if_pos (by omega), if_pos (by omega), if_pos (by omega), if_neg (by omega), if_pos hx1.1, if_pos hx1.2]
    · have f3 : (i : Int) > 0 := Int.natCast_pos.2 (Nat.pos_of_ne_zero h00)
      have hi1 : i - 1 < l.length := Nat.lt_of_le_of_lt (Nat.sub_le _ _) hi
      have f4 : (0 : Int) ≤ ((i - 1 : Nat) : Int) := Int.natCast_nonneg _
      have f5 : ((i - 1 : Nat) : Int) < l.length := Int.ofNat_lt.2 hi1
      obtain ⟨e2, hx2, ht2⟩ := at_duty h (i - 1) hi1
      have ew : wrap64 ((i : Int) - 1) = ((i - 1 : Nat) : Int) := by clear hls hs1 hs2 hmx e1 e2 ih; rw [w64 (by omega) (by omega)]; omega
      have eg : wrap64 ((tk n (l.getD i 0)).f2 - (tk n (l.getD (i - 1) 0)).f3) = (tk n (l.getD i 0)).f2 - (tk n (l.getD (i - 1) 0)).f3 := by clear hls hs1 hs2 hmx e1 e2 ih ew; exact w64 (by omega) (by omega)
      obtain ⟨e1, _⟩ := at_duty h i hi
      obtain ⟨e2, _⟩ := at_duty h (i - 1) hi1
      have hw := w64s hi (by have := hl.2; exact Nat.le_trans this (by decide))
      simp only [h00, decide_false, Bool.false_or]
      by_cases hg : (tk n (l.getD i 0)).f2 - (tk n (l.getD (i - 1) 0)).f3 ≥ rest
      · have := ih (max most d) d hb.1 b2 b3.2
        refine ev_at (f := fun j => impl_stretched.l0 j n l rest (max most d) d l l.length ((i + 1 : Nat) : Int)) (by simp only [hg, decide_true, if_true, Int.zero_add]; exact this) (fun j => ?_)
        unfold tk at *
        simp only [impl_stretched.l0, hw, ew, e1, e2, eg, hls, hs1, hs2, hmx, Option.bind_some]
        rw [if_pos f1, if_pos f2, if_pos f1, if_pos f3, if_pos hx1.1, if_pos hx1.2, if_pos f4, if_pos f5, if_pos hx2.1, if_pos hx2.2, if_pos hg]
      · have := ih (max most (sum + d)) (sum + d) b1.1 b1.2 b3.1
        refine ev_at (f := fun j => impl_stretched.l0 j n l rest (max most (sum + d)) (sum + d) l l.length ((i + 1 : Nat) : Int)) (by simp only [hg, decide_false, Bool.false_eq_true, if_false]; exact this) (fun j => ?_)
        unfold tk at *
        simp only [impl_stretched.l0, hw, ew, e1, e2, eg, hls, hs1, hs2, hmx, Option.bind_some]
        rw [if_pos f1, if_pos f2, if_pos f1, if_pos f3, if_pos hx1.1, if_pos hx1.2, if_pos f4, if_pos f5, if_pos hx2.1, if_pos hx2.2, if_neg hg]
end

def stretchedV0 (n : List S52) (l : List Int) (rest : Int) : Int := implL 0 0 (prs n l rest)
theorem prs_pos {n : List S52} {l : List Int} {rest : Int} (h : dutyB n l = true) : ∀ p, p ∈ prs n l rest → 0 ≤ p.2 := by
  intro p hp
  simp only [prs, List.mem_map, List.mem_range] at hp
  obtain ⟨i, hi, rfl⟩ := hp
  obtain ⟨_, _, ht⟩ := at_duty h i hi
  show 0 ≤ len1 n (l.getD i 0)
  unfold len1
  omega
theorem specL_eq {n : List S52} {l : List Int} {rest : Int} (h : dutyB n l = true) : specL 0 (prs n l rest) = stretchedV0 n l rest := by
  have hne : prs n l rest = (true, len1 n (l.getD 0 0)) :: (prs n l rest).drop 1 := by
    have hl := (dutyB_parts h).1
    have := prs_drop n l rest 0 (by omega)
    simpa [pr] using this
  have h1 := spec_impl (prs n l rest) 0 0 (Int.le_refl 0) (prs_pos h)
  rw [show inner 0 0 (prs n l rest) = 0 by rw [hne, inner]; simp] at h1
  exact h1
def stretchedV (n : List S52) (l : List Int) (rest : Int) : Int := if dutyB n l && inB rest 1 1440 then stretchedV0 n l rest else -1
theorem spec_stretched_all (n : List S52) (l : List Int) (rest : Int) (hn : n.length ≤ 1048576) (h : l.length ≤ 1048576) : Ev (fun k => spec_Stretched.f k n l rest) (stretchedV n l rest) := by
  unfold spec_Stretched.f stretchedV
  have j2 : Ev (fun k => spec_Stretched.j0 k n l rest true) (-1) := ev_some (fun k => by simp [spec_Stretched.j0])
  refine Ev.bind (spec_duty n l hn h) ?_
  cases hd : dutyB n l
  · simpa using j2
  · simp only [if_true, l01In, Option.bind_some, Bool.true_and]
    cases inB rest 1 1440
    · simpa using j2
    · have := spec_stretched_low (rest := rest) hd 0 (Nat.zero_le _) 0
      rw [List.drop_zero, specL_eq hd] at this
      exact ev_at this (fun k => by simp [spec_Stretched.j0])
theorem impl_stretched_f {n : List S52} {l : List Int} (rest : Int) (hd : dutyB n l = true) : Ev (fun k => impl_stretched.f k n l rest) (stretchedV0 n l rest) := by
  have := impl_stretched_low (rest := rest) hd 0 (Nat.zero_le _) 0 0 (Int.le_refl 0) (by simp) (fun _ => rfl)
  rw [List.drop_zero] at this
  exact this
theorem impl_stretched_all (n : List S52) (l : List Int) (rest : Int) (hn : n.length ≤ 1048576) (h : l.length ≤ 1048576) : Ev (fun k => impl_Stretched.f k n l rest) (stretchedV n l rest) := by
  unfold impl_Stretched.f stretchedV
  refine Ev.bind (impl_duty n l hn h) ?_
  cases hd : dutyB n l
  · simpa using Ev.now _
  · simp only [if_true, between, Option.bind_some, Bool.true_and]
    cases inB rest 1 1440
    · simpa using Ev.now _
    · simp only [if_true]
      exact Ev.bind (impl_stretched_f rest hd) (Ev.now _)
end Go.Proofs.Ytnamdbnnijfniaa.Pure

/- Each unit is a chain: a task follows the one ahead of it. -/
import Derived.Test.YtoalolbifakpiaaC3
namespace Go.Proofs.Ytoalolbifakpiaa.Pure
open Go.RowKit Go.Proofs.Ytoalolbifakpiaa.P Go.Proofs.YtoalolbifakpiaaW.PrintWords Go.Proofs.YtoalolbifakpiaaW.PrintLast

/-- Two neighbours of a list are so. -/
def linked (R : Int → Int → Prop) : List Int → Prop
  | [] => True
  | [_] => True
  | x :: y :: r => R x y ∧ linked R (y :: r)
theorem linked_snoc (R : Int → Int → Prop) : ∀ (c : List Int) (t : Int), linked R c → (c ≠ [] → R (lst c) t) → linked R (c ++ [t])
  | [], t, _, _ => trivial
  | [x], t, _, h => ⟨h (by simp), trivial⟩
  | x :: y :: r, t, hc, h => by
    refine ⟨hc.1, linked_snoc R (y :: r) t hc.2 (fun _ => ?_)⟩
    have := h (by simp)
    have e : lst (x :: y :: r) = lst (y :: r) := by
      unfold lst rd
      simp [List.getD_eq_getElem?_getD]
    rw [e] at this
    exact this
theorem best_foll (l : List S25) (turn t : Int) (us : List (List Int)) (P : Nat → Prop) : ∀ (k u : Nat) (best : Int), u + k = us.length → (∀ b : Nat, best = (b : Int) → P b) → (∀ b : Nat, b < us.length → impl_chains.l3 turn (rd_T25 l (lst (cat us b))) (rd_T25 l t) = true → P b) → ∀ b : Nat, impl_chains.l1 l turn t us k u best = (b : Int) → P b
  | 0, u, best, _, h1, _ => by rw [impl_chains.l1]; exact h1
  | k + 1, u, best, h, h1, h2 => by
    have hu : ∀ b : Nat, ((u : Nat) : Int) = (b : Int) → impl_chains.l3 turn (rd_T25 l (impl_chains.l2 us u)) (rd_T25 l t) = true → P b := fun b e hl => by
      have e : u = b := by omega
      rw [← e]
      rw [l2_lst] at hl
      exact h2 u (by omega) hl
    rw [impl_chains.l1]
    split
    · rename_i hl
      split
      · exact best_foll l turn t us P k (u + 1) u (by omega) (fun b e => hu b e hl) h2
      · split
        · exact best_foll l turn t us P k (u + 1) u (by omega) (fun b e => hu b e hl) h2
        · exact best_foll l turn t us P k (u + 1) best (by omega) h1 h2
    · exact best_foll l turn t us P k (u + 1) best (by omega) h1 h2
def Follows' (l : List S25) (turn : Int) (x y : Int) : Prop := impl_chains.l3 turn (rd_T25 l x) (rd_T25 l y) = true
theorem units_linked (l : List S25) (turn : Int) : ∀ (ts : List Int) (us : List (List Int)), (∀ u, u < us.length → linked (Follows' l turn) (cat us u)) → ∀ u, u < (impl_chains.l0 l turn ts us).length → linked (Follows' l turn) (cat (impl_chains.l0 l turn ts us) u)
  | [], us, h => by rw [impl_chains.l0]; exact h
  | t :: ts, us, h => by
    rw [impl_chains.l0]
    obtain ⟨g1, g2⟩ := best_bounds l turn t us us.length 0 (-1) (by omega) (by omega) (by omega)
    obtain ⟨b, hb⟩ : ∃ b, b = impl_chains.l1 l turn t us us.length 0 (-1) := ⟨_, rfl⟩
    rw [← hb] at g1 g2 ⊢
    by_cases c : b < 0
    · rw [if_pos c]
      refine units_linked l turn ts _ (fun u hu => ?_)
      rw [List.length_append, List.length_singleton] at hu
      rw [cat_push _ _ _ hu]
      by_cases e : u = us.length
      · rw [if_pos e]; exact trivial
      · rw [if_neg e]; exact h u (by omega)
    · rw [if_neg c]
      obtain ⟨bn, rfl⟩ : ∃ bn : Nat, b = (bn : Int) := ⟨b.toNat, by omega⟩
      rw [Int.toNat_natCast]
      refine units_linked l turn ts _ (fun u hu => ?_)
      rw [List.length_set] at hu
      have e0 : us.getD bn [] = cat us bn := rfl
      rw [e0, cat_set _ _ _ _ (by omega)]
      by_cases e : bn = u
      · rw [if_pos e]
        refine linked_snoc _ _ _ (h bn (by omega)) (fun _ => ?_)
        exact best_foll l turn t us (fun b => Follows' l turn (lst (cat us b)) t) us.length 0 (-1) (by omega) (fun b e => by omega) (fun b _ hl => hl) bn hb.symm
      · rw [if_neg e]; exact h u hu
theorem units_chain (l : List S25) (turn : Int) (u : Nat) (hu : u < (units l turn).length) : linked (Follows' l turn) (cat (units l turn) u) :=
  units_linked l turn (impl_byDep.l0 l) [] (fun u hu => absurd hu (by simp)) u hu
/-- In a chain the first one's Dep is the least, and so on. -/
theorem linked_pairs {R : Int → Int → Prop} (f : Int → Int) (P : Int → Prop) (hR : ∀ x y, P x → P y → R x y → f x < f y) : ∀ (c : List Int), (∀ x, x ∈ c → P x) → linked R c → c.Pairwise (fun x y => f x < f y)
  | [], _, _ => List.Pairwise.nil
  | [x], _, _ => List.pairwise_singleton _ _
  | x :: y :: r, hP, h => by
    have ih := linked_pairs f P hR (y :: r) (fun z hz => hP z (List.mem_cons_of_mem _ hz)) h.2
    have hxy := hR x y (hP x (by simp)) (hP y (by simp)) h.1
    refine List.Pairwise.cons (fun z hz => ?_) ih
    rcases List.mem_cons.1 hz with e | hz
    · rw [e]; exact hxy
    · have := (List.pairwise_cons.1 ih).1 z hz
      omega
theorem foll_dep {l : List S25} {turn : Int} (hta : ∀ x, x ∈ l → taskB x = true) (htu : 0 ≤ turn ∧ turn ≤ 120) (x y : Int) (hx : 0 ≤ x ∧ x < l.length) (h : Follows' l turn x y) : (rd_T25 l x).f1 = (rd_T25 l y).f0 ∧ (rd_T25 l x).f2 < (rd_T25 l y).f2 ∧ (rd_T25 l x).f3 + turn ≤ (rd_T25 l y).f2 := by
  have ht : taskB (rd_T25 l x) = true := hta _ (by unfold rd_T25; exact getD_mem _ _ _ (by omega))
  unfold Follows' at h
  rw [l3_foll _ ht htu] at h
  unfold follB at h
  rw [Bool.and_eq_true, decide_eq_true_eq, decide_eq_true_eq] at h
  have := (taskB_bounds ht).2.2.1
  omega
end Go.Proofs.Ytoalolbifakpiaa.Pure

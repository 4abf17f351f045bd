/- The walk along the fewest duties, by both programs. -/
import Derived.Test.YtnamdbnnijfniaaX2
namespace Go.Proofs.Ytnamdbnnijfniaa.Pure
open Go.RowKit Go.Proofs.Ytnamdbnnijfniaa.P Go.Proofs.YtnamdbnnijfniaaW.PrintWords Go.Proofs.YtnamdbnnijfniaaW.PrintLast
section
variable {n : List S52} {l : List Int} {a b c d : Int}
/-! The walk. -/
theorem impl_walk {F : Nat → Nat → Bool} {N : Nat} (hN : N ≤ 40) : ∀ (x i : Nat) (out : List Int), i ≤ N → N - i ≤ x → out.length ≤ i → 0 ≤ cst F N i → Ev (fun k => impl_Relieve.l2 k N (few F N).2 out i) (out ++ wlk F N x i, true)
  | 0, i, out, hi, hx, _, _ => by
    have : i = N := by omega
    subst this
    exact ev_some (fun k => by simp [impl_Relieve.l2, wlk])
  | x + 1, i, out, hi, hx, ho, h0 => by
    by_cases hlt : i < N
    · obtain ⟨h1, h2, _, _, h4, h5, h6, _⟩ := nxt_is hlt h0
      have ih := impl_walk hN x (nxt F N i) (out ++ [(i : Int)]) h2 (by omega) (by simp; omega) h4
      have l2 := (few_all F N).1.l2
      simp only [wlk, hlt, if_true]
      rw [show out ++ (i : Int) :: wlk F N x (nxt F N i) = (out ++ [(i : Int)]) ++ wlk F N x (nxt F N i) by simp]
      refine ev_at ih (fun k => ?_)
      simp only [impl_Relieve.l2, rdn, h6]
      rw [if_pos (by omega), if_pos (by omega), if_pos (by omega), if_pos (by omega)]
    · simp only [wlk, hlt, if_false]
      exact ev_some (fun k => by simp [impl_Relieve.l2]; omega)
theorem spec_walk (H : Hc n l a b c d) : ∀ (x i : Nat) (out : List Int), i ≤ l.length → l.length - i ≤ x → out.length ≤ i → 0 ≤ cst (fnB n l a b c d) l.length i →
    Ev (fun k => spec_Relieve.l2 k n l (few (fnB n l a b c d) l.length).1 out i a b c d) (out ++ wlk (fnB n l a b c d) l.length x i, true)
  | 0, i, out, hi, hx, _, _ => by
    have : i = l.length := by omega
    subst this
    exact ev_some (fun k => by simp [spec_Relieve.l2, wlk])
  | x + 1, i, out, hi, hx, ho, h0 => by
    have hle := H.le
    by_cases hlt : i < l.length
    · obtain ⟨h1, h2, h12, h3, h4, h5, h6, h7⟩ := nxt_is hlt h0
      have ih := spec_walk H x (nxt (fnB n l a b c d) l.length i) (out ++ [(i : Int)]) h2 (by omega) (by simp; omega) h4
      obtain ⟨t, ht⟩ : ∃ t, nxt (fnB n l a b c d) l.length i = t := ⟨_, rfl⟩
      have l1 := (few_all (fnB n l a b c d) l.length).1.l1
      simp only [wlk, hlt, if_true]
      rw [show out ++ (i : Int) :: wlk (fnB n l a b c d) l.length x (nxt (fnB n l a b c d) l.length i) = (out ++ [(i : Int)]) ++ wlk (fnB n l a b c d) l.length x (nxt (fnB n l a b c d) l.length i) by simp]
      rw [ht] at h1 h2 h12 h3 h4 h5 h6 h7 ih ⊢
      have key : ∀ j, j ≤ t → i < j → Ev (fun k => spec_Relieve.l3 k n l (few (fnB n l a b c d) l.length).1 (out ++ [(i : Int)]) i j a b c d) ((out ++ [(i : Int)]) ++ wlk (fnB n l a b c d) l.length x t, true) := by
        have step : ∀ j, i < j → j ≤ t → ∀ (res : List Int × Bool), (cst (fnB n l a b c d) l.length j ≥ 0 ∧ cst (fnB n l a b c d) l.length j + 1 = cst (fnB n l a b c d) l.length i ∧ fnB n l a b c d i j = true → Ev (fun k => spec_Relieve.l2 k n l (few (fnB n l a b c d) l.length).1 (out ++ [(i : Int)]) j a b c d) res) →
            (¬ (cst (fnB n l a b c d) l.length j ≥ 0 ∧ cst (fnB n l a b c d) l.length j + 1 = cst (fnB n l a b c d) l.length i ∧ fnB n l a b c d i j = true) → Ev (fun k => spec_Relieve.l3 k n l (few (fnB n l a b c d) l.length).1 (out ++ [(i : Int)]) i ((j + 1 : Nat) : Int) a b c d) res) →
            Ev (fun k => spec_Relieve.l3 k n l (few (fnB n l a b c d) l.length).1 (out ++ [(i : Int)]) i j a b c d) res := by
          intro j hij hjt res hyes hno
          have f1 : ((i : Int) < (few (fnB n l a b c d) l.length).1.length) := by omega
          have f2 : ((j : Int) < (few (fnB n l a b c d) l.length).1.length) := by omega
          have f4 : (0 : Int) ≤ i := by omega
          have f5 : (0 : Int) ≤ j := by omega
          have f6 : (i : Int) ≤ j := by omega
          have f7 : (j : Int) ≤ l.length := by omega
          have hv : wrap64 (cst (fnB n l a b c d) l.length j + 1) = cst (fnB n l a b c d) l.length j + 1 := by
            have hb := cst_b (fnB n l a b c d) (show j ≤ l.length by omega)
            exact w64 (by omega) (by omega)
          have hj1 : wrap64 ((j : Int) + 1) = ((j + 1 : Nat) : Int) := w64s (show j < j + 1 by clear hv; omega) (by clear hv; omega)
          have es : (l.take j).drop i = sl l i j := rfl
          have ei : (few (fnB n l a b c d) l.length).1.getD i 0 = cst (fnB n l a b c d) l.length i := rfl
          have ej : (few (fnB n l a b c d) l.length).1.getD j 0 = cst (fnB n l a b c d) l.length j := rfl
          refine ev_at (f := fun k => if cst (fnB n l a b c d) l.length j ≥ 0 then if cst (fnB n l a b c d) l.length j + 1 = cst (fnB n l a b c d) l.length i then (spec_DutyCode.f k n (sl l i j) a b c d).bind fun t => if t = 0 then spec_Relieve.l2 k n l (few (fnB n l a b c d) l.length).1 (out ++ [(i : Int)]) j a b c d else spec_Relieve.l3 k n l (few (fnB n l a b c d) l.length).1 (out ++ [(i : Int)]) i ((j + 1 : Nat) : Int) a b c d else spec_Relieve.l3 k n l (few (fnB n l a b c d) l.length).1 (out ++ [(i : Int)]) i ((j + 1 : Nat) : Int) a b c d else spec_Relieve.l3 k n l (few (fnB n l a b c d) l.length).1 (out ++ [(i : Int)]) i ((j + 1 : Nat) : Int) a b c d) ?_
            (fun k => by simp only [spec_Relieve.l3, rdn, ei, ej, hv, hj1, if_pos f1, if_pos f2, if_pos f4, if_pos f5, if_pos f6, if_pos f7, Int.toNat_natCast, es])
          by_cases g1 : cst (fnB n l a b c d) l.length j ≥ 0
          · simp only [g1, if_true]
            by_cases g2 : cst (fnB n l a b c d) l.length j + 1 = cst (fnB n l a b c d) l.length i
            · simp only [g2, if_true]
              refine Ev.bind (spec_code_sl H i j) ?_
              by_cases hc : codeV n (sl l i j) a b c d = 0
              · simp only [hc, if_true]
                exact hyes ⟨g1, g2, by simp [fnB, hc]⟩
              · simp only [hc, if_false]
                exact hno (by simp [fnB, hc])
            · simp only [g2, if_false]
              exact hno (by simp [g2])
          · simp only [g1, if_false]
            exact hno (fun h => g1 h.1)
        refine down t (fun hit => ?_) (fun j hj ihj hij => ?_)
        · refine step t hit (Nat.le_refl _) _ (fun _ => ih) (fun hn => absurd ⟨h4, by omega, h3⟩ hn)
        · refine step j hij (by omega) _ (fun ⟨y1, y2, y3⟩ => ?_) (fun _ => ihj (by omega))
          have := (h7 j hij (by omega) (by omega) y3 y1).2 hj
          omega
      have key1 := key (i + 1) (by omega) (by omega)
      clear key
      have hi1 : wrap64 ((i : Int) + 1) = ((i + 1 : Nat) : Int) := w64s (show i < i + 1 by omega) (by omega)
      refine ev_at key1 (fun k => ?_)
      simp only [spec_Relieve.l2, hi1]
      clear hi1 key1 ih
      rw [if_pos (by omega), if_pos (by omega)]
    · simp only [wlk, hlt, if_false]
      exact ev_some (fun k => by simp [spec_Relieve.l2]; omega)

end
end Go.Proofs.Ytnamdbnnijfniaa.Pure

/- Both programs tell the same duties. -/
import Derived.Test.YtnamdbnnijfniaaX3
namespace Go.Proofs.Ytnamdbnnijfniaa.Pure
open Go.RowKit Go.Proofs.Ytnamdbnnijfniaa.P Go.Proofs.YtnamdbnnijfniaaW.PrintWords Go.Proofs.YtnamdbnnijfniaaW.PrintLast
section
variable {n : List S52} {l : List Int} {a b c d : Int}
/-- What both tell. -/
def relV (n : List S52) (l : List Int) (a b c d : Int) : List Int × Bool :=
  if cst (fnB n l a b c d) l.length 0 < 0 then ([], false) else (wlk (fnB n l a b c d) l.length l.length 0, true)
theorem impl_relieve (H : Hc n l a b c d) (h1 : 1 ≤ l.length) : Ev (fun k => impl_Relieve.f k n l a b c d) (relV n l a b c d) := by
  have hle := H.le
  unfold impl_Relieve.f
  refine Ev.bind (impl_tasks n H.nle) ?_
  rw [H.t]
  simp only [if_true, show ¬ (l.length : Int) > 40 by omega, if_false]
  refine Ev.bind (impl_places n l H.nle (by omega)) ?_
  rw [H.p]
  simp only [if_true, impl_rule, H.r, Option.bind_some, Bool.not_true]
  have hs := start_sh l.length
  have hl1 : (few (fnB n l a b c d) l.length).1.length = l.length + 1 := (few_all _ _).1.l1
  have fin : Ev (fun k => impl_Relieve.l0 k n l l.length (few (fnB n l a b c d) l.length).1 (few (fnB n l a b c d) l.length).2 (-1) a b c d) (relV n l a b c d) := by
    unfold relV
    have e0 : rd (few (fnB n l a b c d) l.length).1 0 = cst (fnB n l a b c d) l.length 0 := rdn _ 0
    by_cases h0 : cst (fnB n l a b c d) l.length 0 < 0
    · rw [if_pos h0]
      refine ev_some (fun k => ?_)
      simp only [impl_Relieve.l0, e0]
      rw [if_neg (by omega), if_pos (by omega), if_pos h0]
    · rw [if_neg h0]
      refine ev_at (by simpa using impl_walk hle l.length 0 [] (Nat.zero_le _) (by omega) (by simp) (by omega)) (fun k => ?_)
      simp only [impl_Relieve.l0, e0]
      rw [if_neg (by omega), if_pos (by omega), if_neg h0]
  have := impl_outr H (r := relV n l a b c d) l.length _ (Nat.le_refl _) hs fin
  refine ev_at this (fun k => ?_)
  have e1 : wrap64 ((l.length : Int) + 1) = ((l.length + 1 : Nat) : Int) := by rw [w64 (by omega) (by omega)]; omega
  have e2 : wrap64 ((l.length : Int) - 1) = (l.length : Int) - 1 := w64 (by omega) (by omega)
  simp only [impl_Relieve.j0, e1, e2, Int.toNat_natCast, Bool.false_eq_true, if_false]
  rw [if_pos (by omega), if_pos (by omega), if_pos (by omega), if_pos (by omega)]
theorem spec_relieve (H : Hc n l a b c d) (h1 : 1 ≤ l.length) : Ev (fun k => spec_Relieve.f k n l a b c d) (relV n l a b c d) := by
  have hle := H.le
  unfold spec_Relieve.f
  have hp : Ev (fun k => spec_l17Places.f k n l 40) true := by
    unfold spec_l17Places.f
    refine Ev.bind (spec_tasks n H.nle) ?_
    rw [H.t]
    simp only [if_true]
    have := spec_places n l H.nle (by omega)
    rw [H.p] at this
    exact ev_at this (fun k => by simp [spec_l17Places.j0, show ¬ (l.length : Int) > 40 by omega])
  refine Ev.bind hp ?_
  simp only [if_true, spec_rule, H.r, Option.bind_some, Bool.not_true]
  have hs := start_sh l.length
  have hl1 : (few (fnB n l a b c d) l.length).1.length = l.length + 1 := (few_all _ _).1.l1
  have fin : Ev (fun k => spec_Relieve.l0 k n l (few (fnB n l a b c d) l.length).1 (-1) a b c d) (relV n l a b c d) := by
    unfold relV
    have e0 : rd (few (fnB n l a b c d) l.length).1 0 = cst (fnB n l a b c d) l.length 0 := rdn _ 0
    by_cases h0 : cst (fnB n l a b c d) l.length 0 < 0
    · rw [if_pos h0]
      refine ev_some (fun k => ?_)
      simp only [spec_Relieve.l0, e0]
      rw [if_neg (by omega), if_pos (by omega), if_pos h0]
    · rw [if_neg h0]
      refine ev_at (by simpa using spec_walk H l.length 0 [] (Nat.zero_le _) (by omega) (by simp) (by omega)) (fun k => ?_)
      simp only [spec_Relieve.l0, e0]
      rw [if_neg (by omega), if_pos (by omega), if_neg h0]
  have := spec_outr H (r := relV n l a b c d) l.length _ (Nat.le_refl _) hs fin
  refine ev_at this (fun k => ?_)
  have e1 : wrap64 ((l.length : Int) + 1) = ((l.length + 1 : Nat) : Int) := by rw [w64 (by omega) (by omega)]; omega
  have e2 : wrap64 ((l.length : Int) - 1) = (l.length : Int) - 1 := w64 (by omega) (by omega)
  simp only [spec_Relieve.j0, e1, e2, Int.toNat_natCast, Bool.false_eq_true, if_false]
  rw [if_pos (by omega), if_pos (by omega)]
end
end Go.Proofs.Ytnamdbnnijfniaa.Pure

/- Night: where each unit ends, over lists alone. -/
import Derived.Test.YtoalolbifakpiaaC5
namespace Go.Proofs.Ytoalolbifakpiaa.Pure
open Go.RowKit Go.Proofs.Ytoalolbifakpiaa.P Go.Proofs.YtoalolbifakpiaaW.PrintWords Go.Proofs.YtoalolbifakpiaaW.PrintLast

def endAt (l : List S25) (us : List (List Int)) (u : Nat) : Int := (rd_T25 l (lst (cat us u))).f1
theorem impl_night {l : List S25} {od : List Int} {us : List (List Int)} {out : List Int} (h : Rel l.length od us out) (hb : us.length ≤ 1000) (hc : ∀ u, u < us.length → (cat us u).length ≤ 1000) :
    ∀ u, u ≤ us.length → Ev (fun k => impl_Night.l0 k l ((List.range u).map (endAt l us)) us (us.length : Int) (u : Int)) ((List.range us.length).map (endAt l us)) := by
  refine down us.length ?_ (fun u hu ih => ?_)
  · exact ev_some (fun k => by simp [impl_Night.l0])
  · have hcu := hc u hu
    have hp := List.length_pos_iff.2 (h.ne u hu)
    obtain ⟨h0, h1⟩ := h.last u hu
    refine ev_at ih (fun k => ?_)
    have e : rd_L3 us (u : Int) = cat us u := by unfold rd_L3 cat; rw [Int.toNat_natCast]
    have e2 : wrap64 (((cat us u).length : Int) - 1) = (((cat us u).length - 1 : Nat) : Int) := by rw [w64 (by omega) (by omega)]; omega
    have e3 : rd (cat us u) (((cat us u).length - 1 : Nat) : Int) = lst (cat us u) := rfl
    have e4 : (List.range u).map (endAt l us) ++ [endAt l us u] = (List.range (u + 1)).map (endAt l us) := by rw [List.range_succ, List.map_append]; rfl
    have e5 : (rd_T25 l (lst (cat us u))).f1 = endAt l us u := rfl
    simp only [impl_Night.l0, show (u : Int) < (us.length : Int) by omega, show (0 : Int) ≤ (u : Int) by omega, if_true, e, e2, e3, h0, h1, show (0 : Int) ≤ (((cat us u).length - 1 : Nat) : Int) by omega, show (((cat us u).length - 1 : Nat) : Int) < ((cat us u).length : Int) by omega, List.length_map, List.length_range, show u < 17592186044416 by omega, e5, e4, w64s hu (show us.length ≤ 1000000000 by omega)]
theorem fold_last (g : Int → Int) : ∀ (c : List Int) (a : Int), c ≠ [] → c.foldl (fun _ t => g t) a = g (lst c)
  | [], _, h => absurd rfl h
  | [x], a, _ => rfl
  | x :: y :: c, a, _ => by
    rw [List.foldl_cons, fold_last g (y :: c) _ (by simp)]
    congr 1
end Go.Proofs.Ytoalolbifakpiaa.Pure

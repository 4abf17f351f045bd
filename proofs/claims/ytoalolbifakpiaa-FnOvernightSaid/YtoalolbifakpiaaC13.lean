/- Of each unit the first task and the last: what begins and what ends at a node. -/
import Derived.Test.YtoalolbifakpiaaC6
import Derived.Test.YtoalolbifakpiaaC11
import Derived.Test.YtoalolbifakpiaaC14
namespace Go.Proofs.Ytoalolbifakpiaa.Pure
open Go.RowKit Go.Proofs.Ytoalolbifakpiaa.P Go.Proofs.YtoalolbifakpiaaW.PrintWords Go.Proofs.YtoalolbifakpiaaW.PrintLast

def isAt (a x : Int) : Int := if a = x then 1 else 0
theorem isAt_b (a x : Int) : 0 ≤ isAt a x ∧ isAt a x ≤ 1 := by unfold isAt; split <;> omega
/-- What a task adds: one more at its end, one less at its begin. -/
def turnAt (l : List S25) (x t : Int) : Int := isAt (rd_T25 l t).f1 x - isAt (rd_T25 l t).f0 x
theorem telescope (l : List S25) (turn x : Int) (hR : ∀ a b, Follows' l turn a b → (rd_T25 l a).f1 = (rd_T25 l b).f0) : ∀ (c : List Int) (h : c ≠ []), linked (Follows' l turn) c → sumL (c.map (turnAt l x)) = isAt (rd_T25 l (lst c)).f1 x - isAt (rd_T25 l (c.head h)).f0 x
  | [], h, _ => absurd rfl h
  | [a], _, _ => by
    show turnAt l x a + 0 = _
    have e : lst [a] = a := rfl
    rw [e]; unfold turnAt; simp
  | a :: b :: c, _, hc => by
    have ih := telescope l turn x hR (b :: c) (by simp) hc.2
    have e : lst (a :: b :: c) = lst (b :: c) := by
      unfold lst rd
      simp [List.getD_eq_getElem?_getD]
    have hab := hR a b hc.1
    rw [List.map_cons, sumL, ih, e]
    simp only [List.head_cons]
    unfold turnAt
    rw [hab]
    omega
/-- A sum over all, unit by unit. -/
theorem sum_units (f : Int → Int) (un : Int → Int) (U : Nat) : ∀ (od : List Int), (∀ t, t ∈ od → 0 ≤ un t ∧ un t < U) → sumL ((List.range U).map fun (u : Nat) => sumL ((od.filter (fun t => un t == (u : Int))).map f)) = sumL (od.map f)
  | [], _ => by
    induction U with
    | zero => rfl
    | succ n ih => 
      have z : ∀ m : Nat, sumL ((List.range m).map fun _ => (0 : Int)) = 0 := by
        intro m
        induction m with
        | zero => rfl
        | succ k ihk => rw [List.range_succ, List.map_append, sumL_append, ihk]; rfl
      simpa [sumL] using z (n + 1)
  | t :: od, h => by
    have ih := sum_units f un U od (fun x hx => h x (by simp [hx]))
    obtain ⟨h0, h1⟩ := h t (by simp)
    have e : ∀ u : Nat, sumL (((t :: od).filter (fun t => un t == (u : Int))).map f) = (if un t = (u : Int) then f t else 0) + sumL ((od.filter (fun t => un t == (u : Int))).map f) := by
      intro u
      rw [List.filter_cons]
      by_cases c : un t = (u : Int)
      · rw [if_pos (by rw [c]; exact beq_self_eq_true _), if_pos c]; rfl
      · rw [if_neg (by rw [beq_iff_eq]; exact c), if_neg c]; omega
    have e2 : ((List.range U).map fun (u : Nat) => sumL (((t :: od).filter (fun t => un t == (u : Int))).map f)) = (List.range U).map fun (u : Nat) => (if un t = (u : Int) then f t else 0) + sumL ((od.filter (fun t => un t == (u : Int))).map f) := List.map_congr_left (fun u _ => e u)
    rw [e2, sum_two, ih, List.map_cons, sumL, sum_one (un t) (f t) U h0 h1]
where
  sumL_append : ∀ (a b : List Int), sumL (a ++ b) = sumL a + sumL b
    | [], b => by simp [sumL]
    | x :: a, b => by rw [List.cons_append, sumL, sumL, sumL_append a b]; omega
  sum_two {g1 g2 : Nat → Int} : ∀ {U : Nat}, sumL ((List.range U).map fun u => g1 u + g2 u) = sumL ((List.range U).map g1) + sumL ((List.range U).map g2)
    | 0 => rfl
    | n + 1 => by
      rw [List.range_succ, List.map_append, List.map_append, List.map_append, sumL_append, sumL_append, sumL_append, sum_two (U := n)]
      simp only [List.map_cons, List.map_nil, sumL]
      omega
  sum_one (k v : Int) : ∀ (U : Nat), 0 ≤ k → k < U → sumL ((List.range U).map fun (u : Nat) => if k = (u : Int) then v else 0) = v
    | 0, h0, h1 => by omega
    | n + 1, h0, h1 => by
      rw [List.range_succ, List.map_append, sumL_append]
      simp only [List.map_cons, List.map_nil, sumL]
      by_cases c : k = (n : Int)
      · rw [if_pos c]
        have z : ∀ m : Nat, m ≤ n → sumL ((List.range m).map fun (u : Nat) => if k = (u : Int) then v else 0) = 0 := by
          intro m hm
          induction m with
          | zero => rfl
          | succ j ihj =>
            rw [List.range_succ, List.map_append, sumL_append, ihj (by omega)]
            simp only [List.map_cons, List.map_nil, sumL]
            rw [if_neg (by omega)]
            rfl
        rw [z n (by omega)]
        omega
      · rw [if_neg c, sum_one k v n h0 (by omega)]
        omega
theorem sum_nat_net (l : List S25) (x : Nat) : ∀ (n : Nat), n ≤ l.length → sumL (((List.range n).map (fun (i : Nat) => (i : Int))).map (turnAt l x)) = - net (l.take n) x
  | 0, _ => by simp [sumL, net]
  | n + 1, h => by
    rw [List.range_succ, List.map_append, List.map_append, sum_units.sumL_append, sum_nat_net l x n (by omega), take_getD z25 l n (by omega)]
    have net_app : ∀ (a : List S25) (t : S25), net (a ++ [t]) x = net a x + (one t.f0 x - one t.f1 x) := by
      intro a t
      induction a with
      | nil => simp [net]
      | cons y a ih => rw [List.cons_append, net, net, ih]; omega
    rw [net_app]
    simp only [List.map_cons, List.map_nil, sumL]
    have e : turnAt l x (n : Int) = one (l.getD n z25).f1 x - one (l.getD n z25).f0 x := by
      unfold turnAt isAt one rd_T25
      rw [Int.toNat_natCast]
    rw [e]
    omega
end Go.Proofs.Ytoalolbifakpiaa.Pure

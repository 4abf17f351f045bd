/- Laws of fares in plain numbers: a longer ride costs no less, cards take off, what is paid back. -/
import Derived.Test.YtcihaeggjfpacaaA6
namespace Go.Proofs.Ytcihaeggjfpacaa.Pure
open Go.RowKit Go.Proofs.Ytcihaeggjfpacaa.P Go.Proofs.YtcihaeggjfpacaaW.PrintWords Go.Proofs.YtcihaeggjfpacaaW.PrintLast

theorem fareV_swap (b s : Int) (j : List Int) (r x y : Int) : fareV b s j r x y = fareV b s j r y x := by
  unfold fareV
  rw [Int.min_comm, Int.max_comm, Bool.and_assoc, Bool.and_assoc, Bool.and_comm (inB x 0 19)]
theorem fareV_ok {b s : Int} {j : List Int} {r x y : Int} (h : tariffOk b s j r = true) (hx : 0 ≤ x ∧ x ≤ 19) (hy : 0 ≤ y ∧ y ≤ 19) : fareV b s j r x y = fareV0 b s j r (min x y) (max x y) := by
  unfold fareV
  rw [h, inB_iff.2 hx, inB_iff.2 hy]
  rfl
theorem roundUp_mod (x r : Int) : roundUp x r % r = 0 := by unfold roundUp; exact Int.mul_emod_left _ _
theorem mul_round {x r : Int} (h : x % r = 0) : x / r * r = x := by
  have := Int.mul_ediv_add_emod x r
  rw [Int.mul_comm] at this
  omega
theorem take_mono_sum : ∀ (j : List Int), (∀ x, x ∈ j → 0 ≤ x) → ∀ (n m : Nat), n ≤ m → ((j.take n)).sum ≤ (j.take m).sum
  | [], _, n, m, _ => by simp
  | x :: j, h, 0, m, _ => by
    have : ∀ l : List Int, (∀ x, x ∈ l → 0 ≤ x) → 0 ≤ l.sum := by
      intro l
      induction l with
      | nil => simp
      | cons a l ih => intro h; have h1 := h a (by simp); have h2 := ih (fun y hy => h y (by simp [hy])); simp only [List.sum_cons]; omega
    rw [List.take_zero, List.sum_nil]
    exact this _ (fun y hy => h y (List.mem_of_mem_take hy))
  | x :: j, h, n + 1, 0, hle => by omega
  | x :: j, h, n + 1, m + 1, hle => by
    have := take_mono_sum j (fun y hy => h y (by simp [hy])) n m (by omega)
    simp only [List.take_succ_cons, List.sum_cons]
    omega
theorem jumps_mono {j : List Int} (h : ∀ x, x ∈ j → 0 ≤ x) {lo hi hi' : Int} (hle : hi ≤ hi') : jumps j lo hi ≤ jumps j lo hi' := by
  unfold jumps
  have := take_mono_sum (j.drop lo.toNat) (fun x hx => h x (List.mem_of_mem_drop hx)) (hi.toNat - lo.toNat) (hi'.toNat - lo.toNat) (by omega)
  rw [List.drop_take, List.drop_take]
  exact this
theorem fareV0_mono {b s : Int} {j : List Int} {r : Int} (h : tariffOk b s j r = true) {x y : Int} : fareV0 b s j r x y ≤ fareV0 b s j r x (y + 1) := by
  obtain ⟨hb, hs, hl, hr, hj⟩ := tariffOk_parts h
  have h1 := jumps_mono (fun z hz => (hj z hz).1) (lo := x) (show y ≤ y + 1 by omega)
  unfold fareV0 roundUp
  have h2 : s * (y - x) ≤ s * (y + 1 - x) := Int.mul_le_mul_of_nonneg_left (by omega) hs.1
  have h3 : (b + s * (y - x) + jumps j x y + r - 1) / r ≤ (b + s * (y + 1 - x) + jumps j x (y + 1) + r - 1) / r := Int.ediv_le_ediv (by omega) (by omega)
  exact Int.mul_le_mul_of_nonneg_right h3 (by omega)

theorem withCard_le (r p m best : Int) (c : S57) : withCard r p m best c ≤ best := by unfold withCard; split <;> omega
theorem withCard_mono (r p m : Int) {best best' : Int} (h : best ≤ best') (c : S57) : withCard r p m best c ≤ withCard r p m best' c := by unfold withCard; split <;> omega
theorem cards_le (r p m : Int) : ∀ (l : List S57) (best : Int), l.foldl (withCard r p m) best ≤ best
  | [], _ => Int.le_refl _
  | c :: l, best => Int.le_trans (cards_le r p m l _) (withCard_le r p m best c)
theorem cards_mono (r p m : Int) : ∀ (l : List S57) {best best' : Int}, best ≤ best' → l.foldl (withCard r p m) best ≤ l.foldl (withCard r p m) best'
  | [], _, _, h => h
  | c :: l, _, _, h => cards_mono r p m l (withCard_mono r p m h c)
theorem cards_each (r p m : Int) : ∀ (l : List S57) (best : Int) (c : S57), c ∈ l → l.foldl (withCard r p m) best ≤ withCard r p m best c
  | d :: l, best, c, h => by
    rw [List.foldl_cons]
    rcases List.mem_cons.1 h with rfl | h
    · exact cards_le r p m l _
    · exact Int.le_trans (cards_each r p m l _ c h) (withCard_mono r p m (withCard_le r p m best d) c)
theorem cards_pos (r p m : Int) : ∀ (l : List S57), (∀ c, c ∈ l → cardOk c = true) → ∀ best : Int, 0 ≤ best → 0 ≤ l.foldl (withCard r p m) best
  | [], _, _, h => h
  | c :: l, hc, best, h => by
    refine cards_pos r p m l (fun d hd => hc d (by simp [hd])) _ ?_
    have := (cardOk_parts (hc c (by simp))).2
    unfold withCard cardPrice
    split <;> omega
theorem cardedV_ok {b s : Int} {j : List Int} {r p m : Int} {cards : List S57} (h : tariffOk b s j r = true) (hc : cardsOk cards = true) (hp : 0 ≤ p ∧ p ≤ 10000000) (hm : 0 ≤ m ∧ m ≤ 100000) : cardedV b s j r p cards m = cardedV0 r p cards m := by
  unfold cardedV
  rw [h, hc, inB_iff.2 hp, inB_iff.2 hm]
  rfl
theorem refundV_ok {b s : Int} {j : List Int} {r p : Int} (h : tariffOk b s j r = true) (hp : 0 ≤ p ∧ p ≤ 10000000) (hours : Int) : refundV b s j r p hours = backOf p hours / r * r := by
  unfold refundV
  rw [h, inB_iff.2 hp]
  rfl
theorem backOf_le {p : Int} (hp : 0 ≤ p) (hours : Int) : 0 ≤ backOf p hours ∧ backOf p hours ≤ p := by unfold backOf; repeat' split <;> omega
end Go.Proofs.Ytcihaeggjfpacaa.Pure

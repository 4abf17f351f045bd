/- The drawn tariff is right, and so are the cards, the stops and the minute. -/
import Derived.Test.YtcihaeggjfpacaaA5
import Derived.Test.YtcihaeggjfpacaaF
namespace Go.Proofs.Ytcihaeggjfpacaa.Pure
open Go.RowKit Go.Proofs.Ytcihaeggjfpacaa.P Go.Proofs.YtcihaeggjfpacaaW.PrintWords Go.Proofs.YtcihaeggjfpacaaW.PrintLast

/-- What is drawn, and right. -/
def Drawn (x : Int × Int × List Int × Int × List S57 × List Int × Int) : Prop :=
  tariffOk x.1 x.2.1 x.2.2.1 x.2.2.2.1 = true ∧ cardsOk x.2.2.2.2.1 = true ∧ stopsOk x.2.2.2.2.2.1 = true ∧ 0 ≤ x.2.2.2.2.2.2 ∧ x.2.2.2.2.2.2 < 1440

theorem pick_then {α : Type} {Q : α → Prop} (b : List Int) (i h : Int) (l : List Int) (hb : b.length ≤ 1048576) (hi : At b i) (hn : 1 ≤ l.length) (hn2 : l.length ≤ 1000000) {f : Nat → Int × Int × Int → Option α}
    (k : ∀ v i' h', v ∈ l → At b i' → EvP (fun m => f m (v, i', h')) Q) : EvP (fun m => (spec_l01PickInt.f b i h l).bind (f m)) Q := by
  obtain ⟨v, i', h', e, hv, hi'⟩ := l01Below b i h l.length hb hi (by omega) (by omega)
  unfold spec_l01PickInt.f
  simp only [e, Option.bind_some, hv.1, hv.2, if_true]
  exact k _ i' h' (getD_mem 0 l v.toNat (by omega)) hi'

theorem draw_stops (b : List Int) (hb : b.length ≤ 1048576) {B S R : Int} {j : List Int} (ht : tariffOk B S j R = true) {cards : List S57} (hc : cardsOk cards = true) :
    ∀ (c : Nat) (acc : List Int) (i h : Int), At b i → 2 ≤ acc.length + c → acc.length + c ≤ 20 → (∀ x, x ∈ acc → 0 ≤ x ∧ x ≤ 19) → EvP (fun k => spec_DrawRightTariff.l2 k cards acc c b i h B S j R) Drawn := by
  intro c
  induction c with
  | zero =>
    intro acc i h hi h2 h20 hacc
    refine evp_at (f := fun _ => (spec_l01Below.f b i h 1440).bind fun bt => some (B, S, j, R, cards, acc, bt.1)) ?_ (fun k => by simp [spec_DrawRightTariff.l2])
    refine below_then b i h 1440 hb hi (by omega) (by omega) (fun v i' h' h0 h1 _ => evp_now _ ⟨ht, hc, ?_, h0, h1⟩)
    simp only [stopsOk, Bool.and_eq_true, inB_iff, List.all_eq_true]
    exact ⟨by omega, hacc⟩
  | succ c ih =>
    intro acc i h hi h2 h20 hacc
    refine evp_at (f := fun k => (spec_l01Below.f b i h 20).bind fun bt => spec_DrawRightTariff.l2 k cards (acc ++ [bt.1]) c b bt.2.1 bt.2.2 B S j R) ?_ (fun k => ?_)
    · refine below_then b i h 20 hb hi (by omega) (by omega) (fun v i' h' h0 h1 hi' => ih _ i' h' hi' (by simp; omega) (by simp; omega) (fun x hx => ?_))
      rcases List.mem_append.1 hx with hx | hx
      · exact hacc x hx
      · rw [List.mem_singleton.1 hx]
        exact ⟨h0, by omega⟩
    · simp only [spec_DrawRightTariff.l2]
      rw [if_pos (by omega), w64 (by omega) (by omega)]
      simp only [show acc.length < 17592186044416 by omega, if_true, show ((c + 1 : Nat) : Int) - 1 = c by omega]

theorem draw_cards (b : List Int) (hb : b.length ≤ 1048576) {B S R : Int} {j : List Int} (ht : tariffOk B S j R = true) :
    ∀ (c : Nat) (acc : List S57) (i h : Int), At b i → acc.length + c ≤ 6 → (∀ x, x ∈ acc → cardOk x = true) → EvP (fun k => spec_DrawRightTariff.l1 k acc c b i h B S j R) Drawn := by
  intro c
  induction c with
  | zero =>
    intro acc i h hi h6 hacc
    refine evp_at (f := fun k => (spec_l01Below.f b i h 7).bind fun bt => spec_DrawRightTariff.l2 k acc [] (wrap64 (2 + bt.1)) b bt.2.1 bt.2.2 B S j R) ?_ (fun k => by simp [spec_DrawRightTariff.l1])
    refine below_then b i h 7 hb hi (by omega) (by omega) (fun v i' h' h0 h1 hi' => ?_)
    obtain ⟨n, rfl⟩ : ∃ n : Nat, v = (n : Int) := ⟨v.toNat, by omega⟩
    have e : wrap64 (2 + (n : Int)) = ((n + 2 : Nat) : Int) := by rw [w64 (by omega) (by omega)]; omega
    simp only [e]
    refine draw_stops b hb ht (by simp only [cardsOk, Bool.and_eq_true, List.all_eq_true, decide_eq_true_eq]; exact ⟨hacc, by omega⟩) (n + 2) [] i' h' hi' (by simp) (by simp; omega) (by simp)
  | succ c ih =>
    intro acc i h hi h6 hacc
    refine evp_at (f := fun k => (spec_l01Below.f b i h 900).bind fun b1 => (spec_l01Below.f b b1.2.1 b1.2.2 11).bind fun b2 => (spec_l01Below.f b b2.2.1 b2.2.2 20).bind fun b3 => (spec_l01Below.f b b3.2.1 b3.2.2 540).bind fun b4 =>
      spec_DrawRightTariff.l1 k (acc ++ [⟨wrap64 (10 * b2.1), wrap64 (10 * b3.1), b1.1, wrap64 (b1.1 + b4.1)⟩]) c b b4.2.1 b4.2.2 B S j R) ?_ (fun k => ?_)
    · refine below_then b i h 900 hb hi (by omega) (by omega) (fun v1 i1 h1 h10 h11 hi1 => ?_)
      refine below_then b i1 h1 11 hb hi1 (by omega) (by omega) (fun v2 i2 h2 h20 h21 hi2 => ?_)
      refine below_then b i2 h2 20 hb hi2 (by omega) (by omega) (fun v3 i3 h3 h30 h31 hi3 => ?_)
      refine below_then b i3 h3 540 hb hi3 (by omega) (by omega) (fun v4 i4 h4 h40 h41 hi4 => ih _ i4 h4 hi4 (by simp; omega) (fun x hx => ?_))
      rcases List.mem_append.1 hx with hx | hx
      · exact hacc x hx
      · rw [List.mem_singleton.1 hx, w64 (x := 10 * v2) (by omega) (by omega), w64 (x := 10 * v3) (by omega) (by omega), w64 (x := v1 + v4) (by omega) (by omega)]
        refine (cardOk_iff _).2 ⟨⟨inB_iff.2 ?_, inB_iff.2 ?_⟩, ?_, ?_, ?_⟩ <;> simp <;> omega
    · simp only [spec_DrawRightTariff.l1]
      rw [if_pos (by omega), w64 (x := ((c + 1 : Nat) : Int) - 1) (by omega) (by omega)]
      simp only [show acc.length < 4398046511104 by omega, if_true, show ((c + 1 : Nat) : Int) - 1 = c by omega]

theorem draw_jumps (b : List Int) (hb : b.length ≤ 1048576) {B S R : Int} (hB : 0 ≤ B ∧ B ≤ 100000) (hS : 0 ≤ S ∧ S ≤ 100000) (hR : 1 ≤ R ∧ R ≤ 100) :
    ∀ (c : Nat) (acc : List Int) (i h : Int), At b i → acc.length + c ≤ 20 → (∀ x, x ∈ acc → 0 ≤ x ∧ x ≤ 100000) → EvP (fun k => spec_DrawRightTariff.l0 k c b i h B S acc R) Drawn := by
  intro c
  induction c with
  | zero =>
    intro acc i h hi h20 hacc
    refine evp_at (f := fun k => (spec_l01Below.f b i h 4).bind fun bt => spec_DrawRightTariff.l1 k [] bt.1 b bt.2.1 bt.2.2 B S acc R) ?_ (fun k => by simp [spec_DrawRightTariff.l0])
    refine below_then b i h 4 hb hi (by omega) (by omega) (fun v i' h' h0 h1 hi' => ?_)
    obtain ⟨n, rfl⟩ : ∃ n : Nat, v = (n : Int) := ⟨v.toNat, by omega⟩
    refine draw_cards b hb ?_ n [] i' h' hi' (by simp; omega) (by simp)
    simp only [tariffOk, Bool.and_eq_true, inB_iff, decide_eq_true_eq, List.all_eq_true]
    exact ⟨⟨⟨⟨hB, hS⟩, by omega⟩, hR⟩, hacc⟩
  | succ c ih =>
    intro acc i h hi h20 hacc
    refine evp_at (f := fun k => (spec_l01PickInt.f b i h [0, 0, 15, 240, 7]).bind fun bt => spec_DrawRightTariff.l0 k c b bt.2.1 bt.2.2 B S (acc ++ [bt.1]) R) ?_ (fun k => ?_)
    · refine pick_then b i h _ hb hi (by simp) (by simp) (fun v i' h' hv hi' => ih _ i' h' hi' (by simp; omega) (fun x hx => ?_))
      rcases List.mem_append.1 hx with hx | hx
      · exact hacc x hx
      · rw [List.mem_singleton.1 hx]
        simp at hv
        omega
    · simp only [spec_DrawRightTariff.l0]
      rw [if_pos (by omega), w64 (by omega) (by omega)]
      simp only [show acc.length < 17592186044416 by omega, if_true, show ((c + 1 : Nat) : Int) - 1 = c by omega]

theorem draw_tariff (l : List Int) (hl : l.length ≤ 1048576) : EvP (fun k => spec_DrawRightTariff.f k l) Drawn := by
  unfold spec_DrawRightTariff.f
  refine evp_bind (l01New l hl) (fun x hx => ?_)
  obtain ⟨b, i, h⟩ := x
  obtain ⟨rfl, hi⟩ := hx
  simp only at hi ⊢
  refine below_then b i h 40 hl hi (by omega) (by omega) (fun v1 i1 h1 h10 h11 hi1 => ?_)
  refine below_then b i1 h1 60 hl hi1 (by omega) (by omega) (fun v2 i2 h2 h20 h21 hi2 => ?_)
  refine below_then b i2 h2 12 hl hi2 (by omega) (by omega) (fun v3 i3 h3 h30 h31 hi3 => ?_)
  refine below_then b i3 h3 9 hl hi3 (by omega) (by omega) (fun v4 i4 h4 h40 h41 hi4 => ?_)
  obtain ⟨n, rfl⟩ : ∃ n : Nat, v4 = (n : Int) := ⟨v4.toNat, by omega⟩
  simp only [w64 (x := 10 * v1) (by omega) (by omega), w64 (x := 5 * v2) (by omega) (by omega), w64 (x := 1 + v3) (by omega) (by omega)]
  exact draw_jumps b hl (by omega) (by omega) (by omega) n [] i4 h4 hi4 (by simp; omega) (by simp)
end Go.Proofs.Ytcihaeggjfpacaa.Pure

/- Trips are marked: the marks end. -/
import Derived.Test.YtdpjoblnjjkbfaaV6
import Derived.Test.YtdpjoblnjjkbfaaI3
import Derived.Test.YtdpjoblnjjkbfaaJ3
namespace Go.Proofs.Ytdpjoblnjjkbfaa.Pure
open Go.RowKit Go.Proofs.Ytdpjoblnjjkbfaa.P Go.Proofs.YtdpjoblnjjkbfaaW.PrintWords Go.Proofs.YtdpjoblnjjkbfaaW.PrintLast

theorem mark_text0 (d : Nat) : ∀ (x : Int) (s : ByteArray), x < (10 : Int) ^ d → x ≤ 9223372036854775807 → s.size + d ≤ 100000 → ∃ r, Ev (fun k => laws_markText.l0 k x s) r := by
  induction d with
  | zero =>
    intro x s hx _ hs
    refine ⟨(⟨#[109]⟩ : ByteArray) ++ s, ev_some (fun k => ?_)⟩
    simp only [laws_markText.l0]
    rw [if_neg (by simp at hx; omega), if_pos (by omega)]
  | succ d ih =>
    intro x s hx hx2 hs
    by_cases c : x > 0
    · have hp : (10 : Int) ^ (d + 1) = 10 * 10 ^ d := by rw [Int.pow_succ]; omega
      have hd : Int.tdiv x 10 < (10 : Int) ^ d := by
        rw [Int.tdiv_eq_ediv_of_nonneg (by omega)]
        omega
      have hd0 : 0 ≤ Int.tdiv x 10 := by rw [Int.tdiv_eq_ediv_of_nonneg (by omega)]; omega
      have hd1 : Int.tdiv x 10 ≤ x := by rw [Int.tdiv_eq_ediv_of_nonneg (by omega)]; omega
      have hsz : (strOfNums [wrap64 (48 + Int.tmod x 10) % 256]).size = 1 := rfl
      obtain ⟨r, hr⟩ := ih (Int.tdiv x 10) (strOfNums [wrap64 (48 + Int.tmod x 10) % 256] ++ s) hd (by omega) (by rw [ByteArray.size_append, hsz]; omega)
      refine ⟨r, ev_at hr (fun k => ?_)⟩
      simp only [laws_markText.l0, Option.bind_some]
      rw [if_pos c, if_pos (by rw [hsz]; omega), w64 (by omega) (by omega)]
    · refine ⟨(⟨#[109]⟩ : ByteArray) ++ s, ev_some (fun k => ?_)⟩
      simp only [laws_markText.l0]
      rw [if_neg c, if_pos (by omega)]
theorem mark_text (x : Int) (hx : x ≤ 9223372036854775807) : ∃ r, Ev (fun k => laws_markText.f k x) r := by
  by_cases c : x ≤ 0
  · refine ⟨(⟨#[109, 48]⟩ : ByteArray), ?_⟩
    simp only [laws_markText.f, c, if_true]
    exact Ev.now _
  · obtain ⟨r, hr⟩ := mark_text0 20 x ⟨#[]⟩ (by omega) hx (by decide)
    exact ⟨r, by simpa only [laws_markText.f, c, if_false] using hr⟩
theorem mark_calls (l : List S67) (x : Int) (hl : l.length ≤ 1048576) (h0 : 0 ≤ x) (h1 : x ≤ 1000000000000000000) : ∃ l', Ev (fun k => laws_markCallS.f k l x) (x + 3 * (l.length : Int), l') := by
  have key : ∀ i, i ≤ l.length → ∀ (y : List S67) (v : Int), y.length = l.length → 0 ≤ v → v + 3 * ((l.length : Int) - i) ≤ 1000000000010000000 → ∃ l', Ev (fun k => laws_markCallS.l0 k y v (i : Int)) (v + 3 * ((l.length : Int) - i), l') := by
    refine down l.length ?_ ?_
    · intro y v hy hv hb
      refine ⟨y, ev_some (fun k => ?_)⟩
      simp only [laws_markCallS.l0]
      rw [if_neg (by omega)]
      congr 2
      omega
    · intro i hi ih y v hy hv hb
      obtain ⟨l', hr⟩ := ih ((((y.set i (⟨v, (rd_T67 y i).f1, (rd_T67 y i).f2⟩ : S67)).set i (⟨(rd_T67 (y.set i (⟨v, (rd_T67 y i).f1, (rd_T67 y i).f2⟩ : S67)) i).f0, v + 1, (rd_T67 (y.set i (⟨v, (rd_T67 y i).f1, (rd_T67 y i).f2⟩ : S67)) i).f2⟩ : S67)).set i
        (⟨(rd_T67 ((y.set i (⟨v, (rd_T67 y i).f1, (rd_T67 y i).f2⟩ : S67)).set i (⟨(rd_T67 (y.set i (⟨v, (rd_T67 y i).f1, (rd_T67 y i).f2⟩ : S67)) i).f0, v + 1, (rd_T67 (y.set i (⟨v, (rd_T67 y i).f1, (rd_T67 y i).f2⟩ : S67)) i).f2⟩ : S67)) i).f0, (rd_T67 ((y.set i (⟨v, (rd_T67 y i).f1, (rd_T67 y i).f2⟩ : S67)).set i (⟨(rd_T67 (y.set i (⟨v, (rd_T67 y i).f1, (rd_T67 y i).f2⟩ : S67)) i).f0, v + 1, (rd_T67 (y.set i (⟨v, (rd_T67 y i).f1, (rd_T67 y i).f2⟩ : S67)) i).f2⟩ : S67)) i).f1, v + 2⟩ : S67)))
        (v + 3) (by simp [hy]) (by omega) (by omega)
      refine ⟨l', ?_⟩
      have e : v + 3 + 3 * ((l.length : Int) - ((i + 1 : Nat) : Int)) = v + 3 * ((l.length : Int) - i) := by omega
      rw [e] at hr
      refine ev_at hr (fun k => ?_)
      simp only [laws_markCallS.l0, Option.bind_some, Int.toNat_natCast]
      rw [if_pos (by omega), if_pos (by omega), w64 (x := v + 1) (by omega) (by omega), w64 (x := v + 1 + 1) (by omega) (by omega), w64 (x := v + 1 + 1 + 1) (by omega) (by omega), w64s hi (by omega), show v + 1 + 1 + 1 = v + 3 by omega, show v + 1 + 1 = v + 2 by omega]
  obtain ⟨l', h⟩ := key 0 (Nat.zero_le _) l x rfl h0 (by omega)
  exact ⟨l', by simpa [laws_markCallS.f] using h⟩
theorem mark_trips (l : List S51) (h : Fit l) : ∃ r : Int, 0 ≤ r ∧ Ev (fun k => laws_markTripS.f k l 1) r := by
  have key : ∀ i, i ≤ l.length → ∀ (y : List S51) (v : Int), y.length = l.length → (∀ j, i ≤ j → y.getD j z51 = l.getD j z51) → 1 ≤ v → v ≤ 1 + (i : Int) * 3145729 → ∃ r : Int, 0 ≤ r ∧ Ev (fun k => laws_markTripS.l0 k y v (i : Int)) r := by
    have hl := h.1
    refine down l.length ?_ ?_
    · intro y v hy hj hv hb
      refine ⟨v, by omega, ev_some (fun k => ?_)⟩
      simp only [laws_markTripS.l0]
      rw [if_neg (by omega)]
    · intro i hi ih y v hy hj hv hb
      obtain ⟨t, ht⟩ := mark_text v (by omega)
      have hc : (y.getD i z51).f1.length ≤ 1048576 := by rw [hj i (Nat.le_refl _)]; exact (h.2 _ (getD_mem z51 l i hi)).2
      obtain ⟨cs, hcs⟩ := mark_calls (y.getD i z51).f1 (v + 1) hc (by omega) (by omega)
      obtain ⟨r, hr0, hr⟩ := ih (y.set i ⟨t, cs⟩) (v + 1 + 3 * ((y.getD i z51).f1.length : Int)) (by simpa using hy) (fun j hji => by
        rw [← hj j (by omega)]
        simp [List.getD_eq_getElem?_getD, List.getElem?_set_ne (show i ≠ j by omega)]) (by omega) (by omega)
      refine ⟨r, hr0, Ev.step (f := fun k => (laws_markText.f k v).bind fun t => (laws_markCallS.f k (y.getD i z51).f1 (v + 1)).bind fun b => laws_markTripS.l0 k (y.set i ⟨t, b.2⟩) b.1 ((i + 1 : Nat) : Int)) (fun k => ?_) (Ev.bind ht (Ev.bind hcs hr))⟩
      simp only [laws_markTripS.l0, Int.toNat_natCast]
      rw [if_pos (by omega), if_pos (by omega), w64 (x := v + 1) (by omega) (by omega), w64s hi (by omega)]
      rfl
  exact key 0 (Nat.zero_le _) l 1 rfl (fun _ _ => rfl) (by omega) (by omega)

end Go.Proofs.Ytdpjoblnjjkbfaa.Pure

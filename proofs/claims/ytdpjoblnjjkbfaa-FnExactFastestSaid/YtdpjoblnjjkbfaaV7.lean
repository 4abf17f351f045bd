/- Trips are marked: the marks end. -/
import Derived.Test.YtdpjoblnjjkbfaaV6
import Derived.Test.YtdpjoblnjjkbfaaI3
import Derived.Test.YtdpjoblnjjkbfaaJ3
namespace Go.Proofs.Ytdpjoblnjjkbfaa.Pure
open Go.RowKit Go.Proofs.Ytdpjoblnjjkbfaa.P Go.Proofs.YtdpjoblnjjkbfaaW.PrintWords Go.Proofs.YtdpjoblnjjkbfaaW.PrintLast

theorem mark_text0 (d : Nat) : ∀ (x : Int) (s : ByteArray), x < (10 : Int) ^ d → x ≤ 9223372036854775807 → s.size + d ≤ 100000 → ∃ r, Ev (fun k => laws_markText.l0 k x s) r := by
  induction d with
  | zero =>
    intro x s hx _ hs
    refine ⟨(⟨#[109]⟩ : ByteArray) ++ s, ev_some (fun k => ?_)⟩
    simp only [laws_markText.l0]
    rw [if_neg (by simp at hx; omega), if_pos (by omega)]
  | succ d ih =>
    intro x s hx hx2 hs
    by_cases c : x > 0
    · have hp : (10 : Int) ^ (d + 1) = 10 * 10 ^ d := by rw [Int.pow_succ]; omega
      have hd : Int.tdiv x 10 < (10 : Int) ^ d := by
        rw [Int.tdiv_eq_ediv_of_nonneg (by omega)]
        omega
      have hd0 : 0 ≤ Int.tdiv x 10 := by rw [Int.tdiv_eq_ediv_of_nonneg (by omega)]; omega
      have hd1 : Int.tdiv x 10 ≤ x := by rw [Int.tdiv_eq_ediv_of_nonneg (by omega)]; omega
      have hsz : (strOfNums [wrap64 (48 + Int.tmod x 10) % 256]).size = 1 := rfl
      obtain ⟨r, hr⟩ := ih (Int.tdiv x 10) (strOfNums [wrap64 (48 + Int.tmod x 10) % 256] ++ s) hd (by omega) (by rw [ByteArray.size_append, hsz]; omega)
      refine ⟨r, ev_at hr (fun k => ?_)⟩
      simp only [laws_markText.l0, Option.bind_some]
      rw [if_pos c, if_pos (by rw [hsz]; omega), w64 (by omega) (by omega)]
    · refine ⟨(⟨#[109]⟩ : ByteArray) ++ s, ev_some (fun k => ?_)⟩
      simp only [laws_markText.l0]
      rw [if_neg c, if_pos (by omega)]
theorem mark_text (x : Int) (hx : x ≤ 9223372036854775807) : ∃ r, Ev (fun k => laws_markText.f k x) r := by
  by_cases c : x ≤ 0
  · refine ⟨(⟨#[109, 48]⟩ : ByteArray), ?_⟩
    simp only [laws_markText.f, c, if_true]
    exact Ev.now _
  · obtain ⟨r, hr⟩ := mark_text0 20 x ⟨#[]⟩ (by omega) hx (by decide)
    exact ⟨r, by simpa only [laws_markText.f, c, if_false] using hr⟩
theorem mark_calls (l : List S67) (x : Int) (hl : l.length ≤ 1048576) (h0 : 0 ≤ x) (h1 : x ≤ 1000000000000000000) : ∃ l', Ev (fun k => laws_markCallS.f k l x) (x + 3 * (l.length : Int), l') := by
  have key : ∀ i, i ≤ l.length → ∀ (y : List S67) (v : Int), y.length = l.length → 0 ≤ v → v + 3 * ((l.length : Int) - i) ≤ 1000000000010000000 → ∃ l', Ev (fun k => laws_markCallS.l0 k y v (i : Int)) (v + 3 * ((l.length : Int) - i), l') := by
    refine down l.length ?_ ?_
    · intro y v hy hv hb
      refine ⟨y, ev_some (fun k => ?_)⟩
      simp only [laws_markCallS.l0]
      rw [if_neg (by omega)]
      congr 2
      omega
    · intro i hi ih y v hy hv hb
      obtain ⟨l', hr⟩ := ih ((((y.set i (⟨v, (rd_T67 y i).f1, (rd_T67 y i).f2⟩ : S67)).set i (⟨(rd_T67 (y.set i (⟨v, (rd_T67 y i).f1, (rd_T67 y i).f2⟩ : S67)) i).f0, v + 1, (rd_T67 (y.set i (⟨v, (rd_T67 y i).f1, (rd_T67 y i).f2⟩ : S67)) i).f2⟩ : S67)).set i
        (⟨(rd_T67 ((y.set i (⟨v, (rd_T67 y i).f1, (rd_T67 y i).f2⟩ : S67)).set i (⟨(rd_T67 (y.set i (⟨v, (rd_T67 y i).f1, (rd_T67 y i).f2⟩ : S67)) i).f0, v + 1, (rd_T67 (y.set i (⟨v, (rd_T67 y i).f1, (rd_T67 y i).f2⟩ : S67)) i).f2⟩ : S67)) i).f0, (rd_T67 ((y.set i (⟨v, (rd_T67 y i).f1, (rd_T67 y i).f2⟩ : S67)).set i (⟨(rd_T67 (y.set i (⟨v, (rd_T67 y i).f1, (rd_T67 y i).f2⟩ : S67)) i).f0, v + 1, (rd_T67 (y.set i (⟨v, (rd_T67 y i).f1, (rd_T67 y i).f2⟩ : S67)) i).f2⟩ : S67)) i).f1, v + 2⟩ : S67)))
        (v + 3) (by simp [hy]) (by omega) (by omega)
      refine ⟨l', ?_⟩
      have e : v + 3 + 3 * ((l.length : Int) - ((i + 1 : Nat) : Int)) = v + 3 * ((l.length : Int) - i) := by omega
      rw [e] at hr
      refine ev_at hr (fun k => ?_)
      simp only [laws_markCallS.l0, Option.bind_some, Int.toNat_natCast]
      rw [if_pos (by omega), if_pos (by omega), w64 (x := v + 1) (by omega) (by omega), w64 (x := v + 1 + 1) (by omega) (by omega), w64 (x := v + 1 + 1 + 1) (by omega) (by omega), w64s hi (by omega), show v + 1 + 1 + 1 = v + 3 by omega, show v + 1 + 1 = v + 2 by omega]
  obtain ⟨l', h⟩ := key 0 (Nat.zero_le _) l x rfl h0 (by omega)
  exact ⟨l', by simpa [laws_markCallS.f] using h⟩
theorem mark_trips (l : List S51) (h : Fit l) : ∃ r : Int, 0 ≤ r ∧ Ev (fun k => laws_markTripS.f k l 1) r := by
  have key : ∀ i, i ≤ l.length → ∀ (y : List S51) (v : Int), y.length = l.length → (∀ j, i ≤ j → y.getD j z51 = l.getD j z51) → 1 ≤ v → v ≤ 1 + (i : Int) * 3145729 → ∃ r : Int, 0 ≤ r ∧ Ev (fun k => laws_markTripS.l0 k y v (i : Int)) r := by
    have hl := h.1
    refine down l.length ?_ ?_
    · intro y v hy hj hv hb
      refine ⟨v, by omega, ev_some (fun k => ?_)⟩
      simp only [laws_markTripS.l0]
      rw [if_neg (by omega)]
    · intro i hi ih y v hy hj hv hb
      obtain ⟨t, ht⟩ := mark_text v (by omega)
      have hc : (y.getD i z51).f1.length ≤ 1048576 := by rw [hj i (Nat.le_refl _)]; exact (h.2 _ (getD_mem z51 l i hi)).2
      obtain ⟨cs, hcs⟩ := mark_calls (y.getD i z51).f1 (v + 1) hc (by omega) (by omega)
      obtain ⟨r, hr0, hr⟩ := ih (y.set i ⟨t, cs⟩) (v + 1 + 3 * ((y.getD i z51).f1.length : Int)) (by simpa using hy) (fun j hji => by
        rw [← hj j (by omega)]
        simp [List.getD_eq_getElem?_getD, List.getElem?_set_ne (show i ≠ j by omega)]) (by omega) (by omega)
      refine ⟨r, hr0, Ev.step (f := fun k => (laws_markText.f k v).bind fun t => (laws_markCallS.f k (y.getD i z51).f1 (v + 1)).bind fun b => laws_markTripS.l0 k (y.set i ⟨t, b.2⟩) b.1 ((i + 1 : Nat) : Int)) (fun k => ?_) (Ev.bind ht (Ev.bind hcs hr))⟩
      simp only [laws_markTripS.l0, Int.toNat_natCast]
      rw [if_pos (by omega), if_pos (by omega), w64 (x := v + 1) (by omega) (by omega), w64s hi (by omega)]
      rfl
  exact key 0 (Nat.zero_le _) l 1 rfl (fun _ _ => rfl) (by omega) (by omega)

/-- What Fastest answers. -/
def fastB (l : List S51) (a1 a2 a3 a4 : Int) : List Int := if askB l a1 a2 a3 a4 5 = true then (List.range 5).map (fun (i : Nat) => soonB l a1 a2 a3 a4 ((i : Int) + 1)) else []
theorem ask_hops {l : List S51} {a1 a2 a3 a4 a5 : Int} (h : askB l a1 a2 a3 a4 5 = true) (h5 : 0 ≤ a5 ∧ a5 ≤ 5) : askB l a1 a2 a3 a4 a5 = true := by
  simp only [askB, Bool.and_eq_true, inB_iff] at *
  exact ⟨h.1, h5⟩
theorem spec_fast (l : List S51) (h : Fit l) (a1 a2 a3 a4 : Int) : Ev (fun k => spec_Fastest.f k l a1 a2 a3 a4) (fastB l a1 a2 a3 a4) := by
  refine Ev.bind (spec_asked l h a1 a2 a3 a4 5) ?_
  unfold fastB
  cases hb : askB l a1 a2 a3 a4 5 with
  | false => simpa using Ev.now ([] : List Int)
  | true =>
    simp only [if_true]
    have key : ∀ i, i ≤ 5 → Ev (fun k => spec_Fastest.l0 k l a1 a2 a3 a4 ((List.range i).map (fun (i : Nat) => soonB l a1 a2 a3 a4 ((i : Int) + 1))) ((i : Int) + 1)) ((List.range 5).map (fun (i : Nat) => soonB l a1 a2 a3 a4 ((i : Int) + 1))) := by
      refine down 5 ?_ ?_
      · refine ev_some (fun k => ?_)
        simp only [spec_Fastest.l0]
        rw [if_neg (by omega)]
      · intro i hi ih
        refine Ev.step (f := fun k => (spec_Soonest.f k l a1 a2 a3 a4 ((i : Int) + 1)).bind fun t => spec_Fastest.l0 k l a1 a2 a3 a4 ((List.range i).map (fun (i : Nat) => soonB l a1 a2 a3 a4 ((i : Int) + 1)) ++ [t]) (((i + 1 : Nat) : Int) + 1)) (fun k => ?_)
          (Ev.bind (spec_soonest l h a1 a2 a3 a4 ((i : Int) + 1)) (by rw [List.range_succ, List.map_append] at ih; exact ih))
        simp only [spec_Fastest.l0]
        rw [if_pos (by omega), w64 (by omega) (by omega)]
        simp only [List.length_map, List.length_range, show i < 17592186044416 by omega, if_true, show ((i : Int) + 1 + 1) = (((i + 1 : Nat) : Int) + 1) by omega]
    exact key 0 (by omega)
theorem impl_soon_f (l : List S51) (a1 a2 a3 a4 a5 : Int) (hb : askB l a1 a2 a3 a4 a5 = true) : ∃ n, impl_soonest.f l a1 a2 a3 a4 a5 = some (soonB l a1 a2 a3 a4 a5, n) := by
  obtain ⟨h0, h1, h2, h3, h4, h5⟩ := ask_iff hb
  refine ⟨(impl_soonest.l2 l a1 a2 a3 a4 a5.toNat).2, ?_⟩
  unfold impl_soonest.f soonB
  rw [if_pos ⟨table_l4 h0, h1.1, h1.2, h2.1, h2.2, h3.1, h3.2, h4.1, h4.2, h5.1, h5.2⟩, if_pos hb, ← soonest_same h0 h1 h3 h4.1 a5.toNat h2]
theorem impl_fast (l : List S51) (h : Fit l) (a1 a2 a3 a4 : Int) : Ev (fun k => impl_Fastest.f k l a1 a2 a3 a4) (fastB l a1 a2 a3 a4) := by
  refine Ev.bind (impl_asked l h a1 a2 a3 a4 5) ?_
  unfold fastB
  cases hb : askB l a1 a2 a3 a4 5 with
  | false => simpa using Ev.now ([] : List Int)
  | true =>
    simp only [if_true, Option.bind_some, List.length_replicate]
    have key := ev_map (0 : Nat) (List.range 5) (fun (i : Nat) => soonB l a1 a2 a3 a4 ((i : Int) + 1)) (fun k acc i => impl_Fastest.l0 k l a1 a2 a3 a4 acc 5 i) (List.replicate 5 0) (by simp)
      (fun k acc ha => by simp [impl_Fastest.l0])
      (fun k acc i hi ha => by
        rw [List.length_range] at hi
        obtain ⟨n, hn⟩ := impl_soon_f l a1 a2 a3 a4 ((i : Int) + 1) (ask_hops hb (by omega))
        simp only [impl_Fastest.l0]
        rw [List.length_range] at ha
        rw [if_pos (by omega), w64 (by omega) (by omega), hn, Option.bind_some, if_pos (by omega), if_pos (by omega), Int.toNat_natCast]
        simp [List.getD_eq_getElem?_getD, hi])
    exact key
end Go.Proofs.Ytdpjoblnjjkbfaa.Pure

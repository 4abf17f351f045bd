/- Rows of trips: copied, compared, sized. -/
import Derived.Test.YtdpjoblnjjkbfaaDoorBi
namespace Go.Proofs.YtdpjoblnjjkbfaaDoor.Pure
open Go.RowKit Go.Proofs.YtdpjoblnjjkbfaaDoor.P Go.Proofs.YtdpjoblnjjkbfaaDoorW.PrintWords Go.Proofs.YtdpjoblnjjkbfaaDoorW.PrintLast

def unC (x : S92) : S43 := ⟨x.f0, x.f1, x.f2⟩
def unT (x : S52) : S46 := ⟨x.f0, x.f1.map unC⟩
/-- A row of trips whose sizes are bounded. -/
def Sized (l : List S52) : Prop := l.length ≤ 1048576 ∧ ∀ t, t ∈ l → t.f1.length ≤ 1048576
theorem to_calls (l : List S92) (h : l.length ≤ 1048576) : Ev (fun k => laws_toCallS.f k l) (l.map unC) := by
  have key := ev_map z92 l unC (fun k acc i => laws_toCallS.l0 k l acc i) (List.replicate l.length z43) (by simp)
    (fun k acc ha => by simp [laws_toCallS.l0])
    (fun k acc i hi ha => by simp [laws_toCallS.l0, laws_toCall.f, w64s hi (by omega), hi, ha, rd_T92, unC])
  simpa [laws_toCallS.f, show l.length ≤ 11728124029610 by omega] using key
theorem to_trips (l : List S52) (h : Sized l) : Ev (fun k => laws_toTripS.f k l) (l.map unT) := by
  have hl := h.1
  have key := ev_map' z52 l unT (fun k acc i => laws_toTripS.l0 k l acc i) (List.replicate l.length z46) (by simp)
    (fun k acc ha => by simp [laws_toTripS.l0])
    (fun i acc r hi ha hk => by
      have hc := to_calls (l.getD i z52).f1 (h.2 _ (getD_mem z52 l i hi))
      refine Ev.step (f := fun k => (laws_toCallS.f k (l.getD i z52).f1).bind fun t => laws_toTripS.l0 k l (acc.set i ⟨(l.getD i z52).f0, t⟩) ((i + 1 : Nat) : Int)) (fun k => ?_) (Ev.bind hc hk)
      simp [laws_toTripS.l0, laws_toTrip.f, w64s hi (by omega), hi, ha, rd_T52]
      cases laws_toCallS.f k (l[i]).f1 <;> rfl)
  simpa [laws_toTripS.f, show l.length ≤ 7036874417766 by omega] using key
theorem eq_calls (l : List S43) (h : l.length ≤ 1048576) : Ev (fun k => laws_eqCallS.f k l l) true := by
  have key := ev_true l.length (fun k i => laws_eqCallS.l0 k l l i) (fun k => by simp [laws_eqCallS.l0]) (fun k i hi => by simp [laws_eqCallS.l0, laws_eqCall.f, w64s hi (by omega), hi])
  simpa [laws_eqCallS.f] using key
theorem eq_trips (l : List S46) (h : l.length ≤ 1048576) (h2 : ∀ t, t ∈ l → t.f1.length ≤ 1048576) : Ev (fun k => laws_eqTripS.f k l l) true := by
  have key : ∀ i, i ≤ l.length → Ev (fun k => laws_eqTripS.l0 k l l (i : Int)) true := by
    refine down l.length ?_ ?_
    · exact ev_some (fun k => by simp [laws_eqTripS.l0])
    · intro i hi ih
      have hc := eq_calls (l.getD i z46).f1 (h2 _ (getD_mem z46 l i hi))
      refine Ev.step (f := fun k => (laws_eqCallS.f k (l.getD i z46).f1 (l.getD i z46).f1).bind fun t => if t = true then laws_eqTripS.l0 k l l ((i + 1 : Nat) : Int) else some false) (fun k => ?_) (Ev.bind hc (by simpa using ih))
      simp [laws_eqTripS.l0, laws_eqTrip.f, w64s hi (by omega), hi, rd_T46]
      cases laws_eqCallS.f k (l[i]).f1 (l[i]).f1 <;> simp
      rename_i b
      cases b <;> simp
  have := key 0 (Nat.zero_le _)
  simpa [laws_eqTripS.f] using this
theorem sz_trip (s : ByteArray) (l : List S92) (n : Int) (h0 : 0 ≤ n) (h1 : n ≤ 1048576) (hs : s.size ≤ maxLen) (h : l.length ≤ maxLen) : laws_szTrip.f s l n = some (if n < s.size + l.length then -1 else n - s.size - l.length) := by
  unfold maxLen at h hs
  unfold laws_szTrip.f laws_szCallS.f
  rw [w64 (x := n - s.size) (by omega) (by omega)]
  by_cases c : n - (s.size : Int) < 0
  · rw [if_pos c, if_pos (by omega)]
  · rw [if_neg c, w64 (by omega) (by omega)]
    by_cases c2 : n - (s.size : Int) - (l.length : Int) < 0
    · rw [if_pos c2, if_pos (by omega)]; rfl
    · rw [if_neg c2, if_neg (by omega), Option.bind_some, if_neg c2]
theorem sz_trips (l : List S52) (h : l.length ≤ maxLen ∧ ∀ e, e ∈ l → e.f0.size ≤ maxLen ∧ e.f1.length ≤ maxLen) : ∃ r, Ev (fun k => laws_szTripS.f k l 1048576) r ∧ r ≤ 1048576 ∧ (0 ≤ r → Sized l) := by
  obtain ⟨hl, hs⟩ := h
  unfold maxLen at hl
  by_cases c : (1048576 : Int) - l.length < 0
  · refine ⟨-1, ?_, by omega, fun h => absurd h (by omega)⟩
    unfold laws_szTripS.f
    rw [w64 (by omega) (by omega)]
    simp only [c, if_true]
    exact Ev.now _
  · have key : ∀ i, i ≤ l.length → ∀ n : Int, 0 ≤ n → n ≤ 1048576 → ∃ r, Ev (fun k => laws_szTripS.l0 k l n (i : Int)) r ∧ r ≤ 1048576 ∧ (0 ≤ r → ∀ t, t ∈ l.drop i → t.f1.length ≤ 1048576) := by
      refine down l.length ?_ ?_
      · intro n h0 h1
        exact ⟨n, ev_some (fun k => by simp [laws_szTripS.l0]), h1, fun _ t ht => by simp at ht⟩
      · intro i hi ih n h0 h1
        obtain ⟨hs0, hs1⟩ := hs _ (getD_mem z52 l i hi)
        have hz := sz_trip (l.getD i z52).f0 (l.getD i z52).f1 n h0 h1 hs0 hs1
        by_cases c2 : n < (l.getD i z52).f0.size + (l.getD i z52).f1.length
        · rw [if_pos c2] at hz
          refine ⟨-1, ev_some (fun k => ?_), by omega, fun h => absurd h (by omega)⟩
          simp only [laws_szTripS.l0, rd_T52, Int.toNat_natCast, hz, Option.bind_some]
          rw [if_pos (by omega), if_pos (by omega)]
          rfl
        · rw [if_neg c2] at hz
          obtain ⟨r, hr, hr1, hrd⟩ := ih (n - (l.getD i z52).f0.size - (l.getD i z52).f1.length) (by omega) (by omega)
          refine ⟨r, ev_at hr (fun k => ?_), hr1, fun h t ht => ?_⟩
          · simp only [laws_szTripS.l0, rd_T52, Int.toNat_natCast, hz, Option.bind_some]
            rw [if_pos (by omega), if_pos (by omega), if_neg (by omega), w64s hi (by omega)]
          · rw [drop_getD z52 l i hi] at ht
            rcases List.mem_cons.1 ht with e | ht
            · rw [e]; omega
            · exact hrd h t ht
    obtain ⟨r, hr, hr1, hd⟩ := key 0 (Nat.zero_le _) (1048576 - l.length) (by omega) (by omega)
    refine ⟨r, ?_, hr1, fun h => ⟨by omega, by simpa using hd h⟩⟩
    unfold laws_szTripS.f
    rw [w64 (by omega) (by omega)]
    simp only [c, if_false]
    exact hr
theorem unT_sized (l : List S52) (h : Sized l) : (l.map unT).length ≤ 1048576 ∧ ∀ t, t ∈ l.map unT → t.f1.length ≤ 1048576 := by
  refine ⟨by simpa using h.1, fun t ht => ?_⟩
  obtain ⟨x, hx, rfl⟩ := List.mem_map.1 ht
  have := h.2 x hx
  simpa [unT] using this
end Go.Proofs.YtdpjoblnjjkbfaaDoor.Pure

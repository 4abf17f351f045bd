/- A drawn question: its table is right, its numbers are small. -/
import Derived.Test.YtdpjoblnjjkbfaaV2i
import Derived.Test.YtdpjoblnjjkbfaaF
namespace Go.Proofs.Ytdpjoblnjjkbfaa.Pure
open Go.RowKit Go.Proofs.Ytdpjoblnjjkbfaa.P Go.Proofs.YtdpjoblnjjkbfaaW.PrintWords Go.Proofs.YtdpjoblnjjkbfaaW.PrintLast

def chOk (s : ByteArray) : Prop := ∀ c, c ∈ s.data.toList → nameCh (c.toNat : Int) = true
theorem ch_append {a b : ByteArray} (ha : chOk a) (hb : chOk b) : chOk (a ++ b) := by
  intro c hc
  rw [ByteArray.data_append, Array.toList_append] at hc
  rcases List.mem_append.1 hc with h | h
  · exact ha c h
  · exact hb c h
theorem ch_name {s : ByteArray} (h : chOk s) (h1 : 1 ≤ s.size) (h2 : s.size ≤ 12) : nameB s = true := by
  unfold nameB
  rw [Bool.and_eq_true, List.all_eq_true]
  refine ⟨fun i hi => ?_, inB_iff.2 (by omega)⟩
  rw [List.mem_range] at hi
  unfold bt
  rw [Int.toNat_natCast, dif_pos hi]
  refine h _ ?_
  have : s[i]'hi = s.data[i]'hi := rfl
  rw [this]
  exact Array.mem_toList_iff.2 (Array.getElem_mem _)
theorem ch_digit (d : Int) (h0 : 0 ≤ d) (h1 : d ≤ 9) : chOk (strOfNums [wrap64 (48 + d) % 256]) := by
  have hw : wrap64 (48 + d) % 256 = 48 + d := by rw [w64 (by omega) (by omega)]; omega
  rw [hw]
  intro c hc
  rw [strOfNums_data] at hc
  simp only [List.map_cons, List.map_nil, List.mem_singleton] at hc
  subst hc
  have e : (UInt8.ofNat (48 + d).toNat).toNat = (48 + d).toNat % 256 := by simp [UInt8.toNat_ofNat]
  rw [e]
  simp only [nameCh, Bool.or_eq_true, Bool.and_eq_true, decide_eq_true_eq]
  omega
theorem num0 (d : Nat) (hd : d ≤ 3) : ∀ (x : Int) (s : ByteArray), 0 ≤ x → x < (10 : Int) ^ d → chOk s → s.size + d ≤ 100 → ∃ r, Ev (fun k => spec_l01Num.l0 k x s false) r ∧ chOk r ∧ s.size ≤ r.size ∧ r.size ≤ s.size + d := by
  induction d with
  | zero =>
    intro x s h0 hx hs hs2
    have hx0 : x = 0 := by simp at hx; omega
    subst hx0
    exact ⟨s, ev_some (fun k => by simp [spec_l01Num.l0]), hs, by omega, by omega⟩
  | succ d ih =>
    intro x s h0 hx hs hs2
    by_cases c : x = 0
    · subst c
      exact ⟨s, ev_some (fun k => by simp [spec_l01Num.l0]), hs, by omega, by omega⟩
    · have hp : (10 : Int) ^ (d + 1) = 10 * 10 ^ d := by rw [Int.pow_succ]; omega
      have ht : Int.tdiv x 10 = x / 10 := Int.tdiv_eq_ediv_of_nonneg h0
      have hm : Int.tmod x 10 = x % 10 := Int.tmod_eq_emod_of_nonneg h0
      have hx3 : x < 1000 := by
        rcases (show d = 0 ∨ d = 1 ∨ d = 2 by omega) with rfl | rfl | rfl <;> simp at hx <;> omega
      have hsz : (strOfNums [wrap64 (48 + Int.tmod x 10) % 256]).size = 1 := rfl
      have hz2 : (strOfNums [wrap64 (48 + Int.tmod x 10) % 256] ++ s).size = 1 + s.size := by rw [ByteArray.size_append, hsz]
      obtain ⟨r, hr, h1, h2, h3⟩ := ih (by omega) (x / 10) (strOfNums [wrap64 (48 + Int.tmod x 10) % 256] ++ s) (by omega) (by omega) (ch_append (ch_digit _ (by omega) (by omega)) hs) (by omega)
      refine ⟨r, ev_at hr (fun k => ?_), h1, by omega, by omega⟩
      simp only [spec_l01Num.l0, Option.bind_some]
      rw [if_neg c, if_neg (by omega), if_pos (by rw [hsz]; omega), ht, w64 (by omega) (by omega)]
theorem num_ok (x : Int) (h0 : 0 ≤ x) (h1 : x < 90) : ∃ r, Ev (fun k => spec_l01Num.f k x) r ∧ chOk r ∧ r.size ≤ 3 := by
  by_cases c : x = 0
  · subst c
    refine ⟨⟨#[48]⟩, ?_, ?_, by decide⟩
    · simp only [spec_l01Num.f, if_true]; exact Ev.now _
    · intro c hc
      have : c = 48 := by simpa using hc
      subst this
      decide
  · obtain ⟨r, hr, h2, _, h3⟩ := num0 3 (by decide) x ⟨#[]⟩ h0 (by omega) (fun c hc => by simp at hc) (by decide)
    refine ⟨r, ?_, h2, (by have : (⟨#[]⟩ : ByteArray).size = 0 := rfl; omega)⟩
    simp only [spec_l01Num.f, c, if_false, show decide (x < 0) = false from decide_eq_false (by omega)]
    exact hr
def drawn5 : List ByteArray := [(⟨#[97]⟩ : ByteArray), (⟨#[105, 99]⟩ : ByteArray), (⟨#[114, 101]⟩ : ByteArray), (⟨#[115]⟩ : ByteArray), (⟨#[120]⟩ : ByteArray)]
theorem drawn5_ok : ∀ s, s ∈ drawn5 → chOk s ∧ 1 ≤ s.size ∧ s.size ≤ 2 := by
  intro s hs
  simp only [drawn5, List.mem_cons, List.not_mem_nil, or_false] at hs
  rcases hs with rfl | rfl | rfl | rfl | rfl
  all_goals
    refine ⟨?_, by decide, by decide⟩
    intro c hc
    simp only [List.mem_cons, List.not_mem_nil, or_false] at hc
    rcases hc with rfl | rfl <;> decide
theorem draw_name (b : List Int) (i h : Int) (hb : b.length ≤ 1048576) (hi : At b i) : EvP (fun k => spec_l08DrawName.f k b i h) (fun r => nameB r.1 = true ∧ r.1.size ≤ 12 ∧ At b r.2.1) := by
  unfold spec_l08DrawName.f
  have hpick : ∃ s i' h', spec_l01PickText.f b i h drawn5 = some (s, i', h') ∧ s ∈ drawn5 ∧ At b i' := by
    obtain ⟨v, i', h', e, hv, hi'⟩ := l01Below b i h 5 hb hi (by omega) (by omega)
    have hl : ((drawn5.length : Nat) : Int) = 5 := rfl
    refine ⟨rdOf ByteArray.empty drawn5 v, i', h', ?_, getD_mem _ _ _ (by rw [show drawn5.length = 5 from rfl]; omega), hi'⟩
    unfold spec_l01PickText.f
    rw [hl, e, Option.bind_some, if_pos hv.1, if_pos hv.2]
  obtain ⟨s, i1, h1, e, hs, hi1⟩ := hpick
  have e' : spec_l01PickText.f b i h [(⟨#[97]⟩ : ByteArray), (⟨#[105, 99]⟩ : ByteArray), (⟨#[114, 101]⟩ : ByteArray), (⟨#[115]⟩ : ByteArray), (⟨#[120]⟩ : ByteArray)] = some (s, i1, h1) := e
  obtain ⟨c1, c2, c3⟩ := drawn5_ok s hs
  simp only [e', Option.bind_some]
  refine below_then b i1 h1 90 hb hi1 (by omega) (by omega) (fun v i2 h2 v0 v1 hi2 => ?_)
  obtain ⟨r, hr, hc, hsz⟩ := num_ok v v0 v1
  refine evp_bind (evp_of hr (Q := fun t => t = r) rfl) (fun t ht => ?_)
  subst ht
  have hz : (s ++ t).size = s.size + t.size := ByteArray.size_append
  rw [if_pos (by omega)]
  have hN : nameB (s ++ t) = true := ch_name (ch_append c1 hc) (by rw [hz]; omega) (by rw [hz]; omega)
  have hN2 : (s ++ t).size ≤ 12 := by rw [hz]; omega
  exact evp_now _ ⟨hN, hN2, hi2⟩

theorem calls_snoc {cs : List S67} (h : callsB cs = true) (c : S67) (hc : 0 ≤ c.f0 ∧ c.f0 ≤ 29 ∧ 0 ≤ c.f1 ∧ c.f1 ≤ c.f2 ∧ c.f2 ≤ 100000) (hlast : cs = [] ∨ ((cs.getD (cs.length - 1) z67).f2 < c.f1 ∧ (cs.getD (cs.length - 1) z67).f0 ≠ c.f0)) : callsB (cs ++ [c]) = true := by
  simp only [callsB, List.all_eq_true, List.mem_range, List.length_append, List.length_singleton] at *
  intro i hi
  have g1 : ∀ j, j < cs.length → (cs ++ [c]).getD j z67 = cs.getD j z67 := fun j hj => by simp [List.getD_eq_getElem?_getD, List.getElem?_append_left hj]
  have g2 : (cs ++ [c]).getD cs.length z67 = c := by simp [List.getD_eq_getElem?_getD]
  rcases Nat.lt_or_ge i cs.length with hlt | hge
  · have := h i hlt
    unfold callB at *
    rw [g1 i hlt, g1 (i - 1) (by omega)]
    exact this
  · obtain rfl : i = cs.length := by omega
    unfold callB
    rw [g2]
    simp only [Bool.and_eq_true, Bool.or_eq_true, decide_eq_true_eq, inB_iff]
    refine ⟨⟨⟨by omega, by omega⟩, by omega⟩, ?_⟩
    rcases hlast with rfl | ⟨a, b⟩
    · exact Or.inl rfl
    · by_cases h0 : cs.length = 0
      · exact Or.inl h0
      · rw [g1 (cs.length - 1) (by omega)]
        exact Or.inr ⟨a, b⟩
theorem way_ev (b : List Int) (i h N node : Int) : Ev (fun k => spec_l02DrawWay.f k b i h N ([] : List S99) node 1) (([] : List Int), i, h) := by
  unfold spec_l02DrawWay.f
  refine Ev.step (f := fun k => spec_l02DrawWay.l1 k 1 [] node 0 0 0 b i h N []) (fun k => ?_) (Ev.step (f := fun k => spec_l02DrawWay.l0 k 1 [] node 1 b i h N []) (fun k => ?_) (ev_some (fun k => ?_)))
  · simp [spec_l02DrawWay.l0, spec_l01Below.f]
  · simp only [spec_l02DrawWay.l1]
    rw [if_neg (by simp), w64 (by omega) (by omega)]
    rfl
  · simp [spec_l02DrawWay.l0]
theorem draw_trip0 (b : List Int) (hb : b.length ≤ 1048576) (N : Int) (hN : N = 4 ∨ N = 5) (nm : ByteArray) (n : Nat) : ∀ (node m : Int) (cs : List S67) (i h : Int), At b i → n + cs.length ≤ 4 → 2 ≤ n + cs.length → 0 ≤ node → node < N → 0 ≤ m → m + 20 * n ≤ 300 → callsB cs = true →
    (cs = [] ∨ ((cs.getD (cs.length - 1) z67).f2 < m ∧ (cs.getD (cs.length - 1) z67).f0 ≠ node)) →
    EvP (fun k => spec_l08DrawTrip.l0 k node m n b i h N ([] : List S99) nm cs) (fun r => r.1 = nm ∧ callsB r.2.1 = true ∧ 2 ≤ r.2.1.length ∧ r.2.1.length ≤ 4 ∧ At b r.2.2.1) := by
  induction n with
  | zero =>
    intro node m cs i h hi h4 h2 _ _ _ _ hcs _
    exact evp_of (ev_some (r := (nm, cs, i, h)) (fun k => by simp [spec_l08DrawTrip.l0])) ⟨rfl, hcs, by dsimp only; omega, by dsimp only; omega, hi⟩
  | succ n ih =>
    intro node m cs i h hi h4 h2 n0 n1 m0 m1 hcs hlast
    refine evp_at (f := fun k => (spec_l01Below.f b i h 4).bind fun bt194 => (spec_l01Below.f b bt194.2.1 bt194.2.2 14).bind fun bt200 => (spec_l01Below.f b bt200.2.1 bt200.2.2 (N - 1)).bind fun bt203 => (spec_l02DrawWay.f k b bt203.2.1 bt203.2.2 N ([] : List S99) node 1).bind fun bt206 =>
      if (bt206.1.length : Int) = 1 then (if 0 < (bt206.1.length : Int) then (if 0 ≤ (rd bt206.1 0) then (if (rd bt206.1 0) < (([] : List S99).length : Int) then ((spec_l02Other.f ((rd_T99 [] (rd bt206.1 0)).f0) ((rd_T99 [] (rd bt206.1 0)).f1) ((rd_T99 [] (rd bt206.1 0)).f2) ((rd_T99 [] (rd bt206.1 0)).f3) node).bind fun t213 => (spec_l08DrawTrip.l0 k t213 (wrap64 ((wrap64 ((wrap64 (m + bt194.1)) + 2)) + bt200.1)) (n : Int) b bt206.2.1 bt206.2.2 N [] nm (cs ++ [(⟨node, m, wrap64 (m + bt194.1)⟩ : S67)]))) else none) else none) else none) else (spec_l08DrawTrip.l0 k (Int.tmod (wrap64 ((wrap64 (node + 1)) + bt203.1)) N) (wrap64 ((wrap64 ((wrap64 (m + bt194.1)) + 2)) + bt200.1)) (n : Int) b bt206.2.1 bt206.2.2 N [] nm (cs ++ [(⟨node, m, wrap64 (m + bt194.1)⟩ : S67)]))) ?_ (fun k => ?_)
    · refine below_then b i h 4 hb hi (by omega) (by omega) (fun v1 i1 h1 a1 a2 hi1 => ?_)
      refine below_then b i1 h1 14 hb hi1 (by omega) (by omega) (fun v2 i2 h2' a3 a4 hi2 => ?_)
      refine below_then b i2 h2' (N - 1) hb hi2 (by omega) (by omega) (fun v3 i3 h3 a5 a6 hi3 => ?_)
      refine evp_bind (evp_of (way_ev b i3 h3 N node) (Q := fun t => t = (([] : List Int), i3, h3)) rfl) (fun t ht => ?_)
      subst ht
      simp only [List.length_nil, show ¬ (((0 : Nat) : Int) = 1) by decide, if_false]
      rw [w64 (x := m + v1) (by omega) (by omega), w64 (x := m + v1 + 2) (by omega) (by omega), w64 (x := m + v1 + 2 + v2) (by omega) (by omega), w64 (x := node + 1) (by omega) (by omega), w64 (x := node + 1 + v3) (by omega) (by omega), Int.tmod_eq_emod_of_nonneg (by omega)]
      have hnode : 0 ≤ (node + 1 + v3) % N ∧ (node + 1 + v3) % N < N ∧ (node + 1 + v3) % N ≠ node := by rcases hN with rfl | rfl <;> omega
      refine ih _ _ _ i3 h3 hi3 (by simp; omega) (by simp; omega) hnode.1 hnode.2.1 (by omega) (by omega) (calls_snoc hcs _ (by dsimp only; omega) hlast) (Or.inr ?_)
      have g2 : (cs ++ [(⟨node, m, m + v1⟩ : S67)]).getD ((cs ++ [(⟨node, m, m + v1⟩ : S67)]).length - 1) z67 = ⟨node, m, m + v1⟩ := by simp [List.getD_eq_getElem?_getD]
      rw [g2]
      exact ⟨by dsimp only; omega, fun e => hnode.2.2 e.symm⟩
    · simp only [spec_l08DrawTrip.l0, Option.bind_some]
      rw [if_pos (by omega)]
      simp only [show cs.length < 5864062014805 by omega, if_true, show ¬ N = 0 by omega, if_false]
      rw [w64 (x := N - 1) (by omega) (by omega), w64 (x := ((n + 1 : Nat) : Int) - 1) (by omega) (by omega), show ((n + 1 : Nat) : Int) - 1 = (n : Int) by omega]
theorem draw_trip (b : List Int) (i h N : Int) (hb : b.length ≤ 1048576) (hi : At b i) (hN : N = 4 ∨ N = 5) : EvP (fun k => spec_l08DrawTrip.f k b i h N ([] : List S99) 4) (fun r => tripB ⟨r.1, r.2.1⟩ = true ∧ r.1.size ≤ 12 ∧ r.2.1.length ≤ 4 ∧ At b r.2.2.1) := by
  unfold spec_l08DrawTrip.f
  refine evp_bind (draw_name b i h hb hi) (fun r hr => ?_)
  obtain ⟨hn, hz, hi1⟩ := hr
  refine below_then b _ _ N hb hi1 (by omega) (by omega) (fun v1 i1 h1 a1 a2 hi1 => ?_)
  refine below_then b i1 h1 120 hb hi1 (by omega) (by omega) (fun v2 i2 h2 a3 a4 hi2 => ?_)
  rw [w64 (x := 4 - 1) (by omega) (by omega)]
  refine below_then b i2 h2 (4 - 1) hb hi2 (by omega) (by omega) (fun v3 i3 h3 a5 a6 hi3 => ?_)
  rw [w64 (x := 2 + v3) (by omega) (by omega)]
  have e : 2 + v3 = ((2 + v3.toNat : Nat) : Int) := by omega
  dsimp only
  rw [e]
  refine evp_mono (draw_trip0 b hb N hN r.1 (2 + v3.toNat) v1 v2 [] i3 h3 hi3 (by simp; omega) (by simp) a1 a2 a3 (by omega) rfl (Or.inl rfl)) (fun q hq => ?_)
  obtain ⟨q1, q2, q3, q4, q5⟩ := hq
  refine ⟨?_, by rw [q1]; exact hz, q4, q5⟩
  unfold tripB
  rw [Bool.and_eq_true, Bool.and_eq_true, inB_iff]
  exact ⟨⟨by rw [q1]; exact hn, by dsimp only; omega⟩, q2⟩
theorem taken_ev (l : List S51) (nm : ByteArray) (hl : l.length ≤ 1000) : Ev (fun k => spec_l08Taken.f k l nm) (l.any (fun t => decide (t.f0.toList = nm.toList))) := by
  refine ev_any l (fun t => decide (t.f0.toList = nm.toList)) (fun k i => spec_l08Taken.l0 k l nm i) (fun k => by simp [spec_l08Taken.l0]) (fun k i hi hp => ?_) (fun k i hi hp => ?_)
  · have e : rd_T51 l (i : Int) = l[i] := by unfold rd_T51; simp [List.getD_eq_getElem?_getD, List.getElem?_eq_getElem hi]
    simp only [spec_l08Taken.l0]
    rw [if_pos (by omega), if_pos (by omega), e, if_pos (by simpa using hp)]
  · have e : rd_T51 l (i : Int) = l[i] := by unfold rd_T51; simp [List.getD_eq_getElem?_getD, List.getElem?_eq_getElem hi]
    simp only [spec_l08Taken.l0]
    rw [if_pos (by omega), if_pos (by omega), e, if_neg (by simpa using hp), w64s hi (by omega)]
def TabOk (l : List S51) : Prop := (∀ i, i < l.length → tripB (l.getD i z51) = true ∧ newB l i = true) ∧ ∀ t, t ∈ l → t.f0.size ≤ 12 ∧ t.f1.length ≤ 4
theorem tab_snoc {l : List S51} (h : TabOk l) (t : S51) (ht : tripB t = true) (hz : t.f0.size ≤ 12 ∧ t.f1.length ≤ 4) (hn : l.any (fun x => decide (x.f0.toList = t.f0.toList)) = false) : TabOk (l ++ [t]) := by
  have g1 : ∀ j, j < l.length → (l ++ [t]).getD j z51 = l.getD j z51 := fun j hj => by simp [List.getD_eq_getElem?_getD, List.getElem?_append_left hj]
  have g2 : (l ++ [t]).getD l.length z51 = t := by simp [List.getD_eq_getElem?_getD]
  refine ⟨fun i hi => ?_, fun x hx => ?_⟩
  · rw [List.length_append, List.length_singleton] at hi
    rcases Nat.lt_or_ge i l.length with hlt | hge
    · have h1 := h.1 i hlt
      refine ⟨by rw [g1 i hlt]; exact h1.1, ?_⟩
      have h2 := h1.2
      simp only [newB, List.all_eq_true, List.mem_range, decide_eq_true_eq] at *
      intro j hj
      rw [g1 i hlt, g1 j (by omega)]
      exact h2 j hj
    · obtain rfl : i = l.length := by omega
      refine ⟨by rw [g2]; exact ht, ?_⟩
      simp only [newB, List.all_eq_true, List.mem_range, decide_eq_true_eq]
      intro j hj
      rw [g2, g1 j hj]
      rw [List.any_eq_false] at hn
      have := hn _ (getD_mem z51 l j hj)
      simpa using this
  · rcases List.mem_append.1 hx with hx | hx
    · exact h.2 x hx
    · rw [List.mem_singleton.1 hx]; exact hz
theorem draw_table0 (b : List Int) (hb : b.length ≤ 1048576) (N : Int) (hN : N = 4 ∨ N = 5) (n : Nat) : ∀ (l : List S51) (i h : Int), At b i → n + l.length ≤ 24 → TabOk l →
    EvP (fun k => spec_l08DrawTable.l0 k l n b i h N ([] : List S99)) (fun r => TabOk r.1 ∧ r.1.length ≤ 24 ∧ At b r.2.1) := by
  induction n with
  | zero =>
    intro l i h hi hl hT
    exact evp_of (ev_some (r := (l, i, h)) (fun k => by simp [spec_l08DrawTable.l0])) ⟨hT, by dsimp only; omega, hi⟩
  | succ n ih =>
    intro l i h hi hl hT
    refine evp_at (f := fun k => (spec_l08DrawTrip.f k b i h N ([] : List S99) 4).bind fun bt222 => ((spec_l08Taken.f k l bt222.1).bind fun t229 => (if t229 = true then (spec_l08DrawTable.l0 k l n b bt222.2.2.1 bt222.2.2.2 N []) else (spec_l08DrawTable.l0 k (l ++ [(⟨bt222.1, bt222.2.1⟩ : S51)]) n b bt222.2.2.1 bt222.2.2.2 N [])))) ?_ (fun k => ?_)
    · refine evp_bind (draw_trip b i h N hb hi hN) (fun r hr => ?_)
      obtain ⟨h1, h2, h3, h4⟩ := hr
      refine evp_bind (evp_of (taken_ev l r.1 (by omega)) (Q := fun t => t = l.any (fun t => decide (t.f0.toList = r.1.toList))) rfl) (fun t ht => ?_)
      cases t with
      | true =>
        simp only [if_true]
        exact ih l _ _ h4 (by omega) hT
      | false =>
        simp only [Bool.false_eq_true, if_false]
        exact ih _ _ _ h4 (by simp; omega) (tab_snoc hT ⟨r.1, r.2.1⟩ h1 ⟨h2, h3⟩ ht.symm)
    · simp only [spec_l08DrawTable.l0]
      rw [if_pos (by omega), w64 (x := ((n + 1 : Nat) : Int) - 1) (by omega) (by omega), show ((n + 1 : Nat) : Int) - 1 = (n : Int) by omega]
      simp only [show l.length < 3518437208883 by omega, if_true]
theorem draw_question (code : List Int) (hl : code.length ≤ 1048576) : EvP (fun k => spec_DrawRightQuestion.f k code) (fun r => tableB r.1 = true ∧ Fit r.1 ∧ (0 ≤ r.2.1 ∧ r.2.1 < 5) ∧ (0 ≤ r.2.2.1 ∧ r.2.2.1 < 5) ∧ (0 ≤ r.2.2.2.1 ∧ r.2.2.2.1 < 60) ∧ (0 ≤ r.2.2.2.2 ∧ r.2.2.2.2 < 8)) := by
  unfold spec_DrawRightQuestion.f
  refine evp_bind (l01New code hl) (fun c hc => ?_)
  obtain ⟨b, i, h⟩ := c
  obtain ⟨rfl, hi⟩ := hc
  dsimp only at hl hi ⊢
  refine below_then b i h 2 hl hi (by omega) (by omega) (fun v1 i1 h1 a1 a2 hi1 => ?_)
  have hsz : ∃ s, spec_l01Size.f b 8 = some s ∧ 0 ≤ s ∧ s ≤ 8 := by
    unfold spec_l01Size.f
    have e : wrap64 ((b.length : Int) / 16) = (b.length : Int) / 16 := w64 (by omega) (by omega)
    rw [e, w64 (x := 2 + (b.length : Int) / 16) (by omega) (by omega)]
    by_cases c : 2 + (b.length : Int) / 16 > 8
    · exact ⟨8, by rw [if_pos c], by omega, by omega⟩
    · exact ⟨2 + (b.length : Int) / 16, by rw [if_neg c], by omega, by omega⟩
  obtain ⟨s, es, s0, s1⟩ := hsz
  simp only [es, Option.bind_some]
  rw [w64 (x := 4 + v1) (by omega) (by omega), w64 (x := 3 + s) (by omega) (by omega)]
  have htab : EvP (fun k => spec_l08DrawTable.f k b i1 h1 (4 + v1) ([] : List S99) (3 + s)) (fun r => TabOk r.1 ∧ r.1.length ≤ 24 ∧ At b r.2.1) := by
    unfold spec_l08DrawTable.f
    refine below_then b i1 h1 (3 + s) hl hi1 (by omega) (by omega) (fun v2 i2 h2 a3 a4 hi2 => ?_)
    dsimp only
    rw [w64 (x := 1 + v2) (by omega) (by omega), show 1 + v2 = ((1 + v2.toNat : Nat) : Int) by omega]
    exact draw_table0 b hl (4 + v1) (by omega) (1 + v2.toNat) [] i2 h2 hi2 (by simp; omega) ⟨fun i hi => absurd hi (by simp), fun t ht => by simp at ht⟩
  refine evp_bind htab (fun r hr => ?_)
  obtain ⟨hT, hlen, hi2⟩ := hr
  refine below_then b _ _ 5 hl hi2 (by omega) (by omega) (fun v3 i3 h3 a5 a6 hi3 => ?_)
  refine below_then b i3 h3 5 hl hi3 (by omega) (by omega) (fun v4 i4 h4 a7 a8 hi4 => ?_)
  refine below_then b i4 h4 60 hl hi4 (by omega) (by omega) (fun v5 i5 h5 a9 aa hi5 => ?_)
  refine below_then b i5 h5 8 hl hi5 (by omega) (by omega) (fun v6 i6 h6 ab ac hi6 => ?_)
  refine evp_now _ ⟨?_, ⟨by dsimp only; omega, fun t ht => ?_⟩, ⟨a5, a6⟩, ⟨a7, a8⟩, ⟨a9, aa⟩, ⟨ab, ac⟩⟩
  · unfold tableB
    rw [Bool.and_eq_true, List.all_eq_true]
    refine ⟨decide_eq_true hlen, fun j hj => ?_⟩
    rw [List.mem_range] at hj
    rw [Bool.and_eq_true]
    exact hT.1 j hj
  · have := hT.2 t ht
    refine ⟨by unfold maxLen; omega, by omega⟩
end Go.Proofs.Ytdpjoblnjjkbfaa.Pure

/- The legs from a node: what legsFrom tells, as a plain list; their block in memory. -/
import Derived.Test.YtdpjoblnjjkbfaaDoorF5a
import Derived.Test.YtdpjoblnjjkbfaaDoorE
namespace Go.Proofs.YtdpjoblnjjkbfaaDoor.P
open Go.RowKit Go.Proofs.YtdpjoblnjjkbfaaDoorW.PrintWords Go.Proofs.YtdpjoblnjjkbfaaDoorW.PrintLast Go.Proofs.YtdpjoblnjjkbfaaDoorW.PrintMore Go.Proofs.YtdpjoblnjjkbfaaDoor.Pure
set_option linter.unusedVariables false

def tb_ok (l : List S46) : Prop := l.length ≤ 24 ∧ ∀ t, t ∈ l → t.f1.length ≤ 12 ∧ ∀ c, c ∈ t.f1 → 0 ≤ c.f0 ∧ c.f0 < 30 ∧ 0 ≤ c.f1 ∧ c.f1 ≤ 100000 ∧ 0 ≤ c.f2 ∧ c.f2 ≤ 100000
theorem tb_ok_of (l : List S46) (h : impl_departures.l8 l = true) : tb_ok l := by
  unfold impl_departures.l8 at h
  simp only [Bool.and_eq_true, decide_eq_true_eq, List.all_eq_true] at h
  refine ⟨h.1, fun t ht => ?_⟩
  obtain ⟨h1, h2⟩ := h.2 t ht
  refine ⟨h1, fun c hc => ?_⟩
  have := h2 c hc
  omega
/-- The legs of one trip from the places from j on. -/
def legs_t (cs : List S43) (node : Int) (i : Nat) (on : Nat) : List S48 := if (cs.getD on z43).f0 = node then (List.range (cs.length - (on + 1))).map fun m => (⟨(i : Int), (on : Int), ((on + 1 + m : Nat) : Int)⟩ : S48) else []
theorem legs_t_len (cs : List S43) (node : Int) (i on : Nat) : (legs_t cs node i on).length ≤ cs.length := by
  unfold legs_t; split <;> simp
theorem flat_len {α β : Type} (f : α → List β) (n : Nat) (l : List α) (h : ∀ a, a ∈ l → (f a).length ≤ n) : (l.flatMap f).length ≤ l.length * n := by
  induction l with
  | nil => simp
  | cons a l ih =>
    have h1 := h a List.mem_cons_self
    have h2 := ih (fun b hb => h b (List.mem_cons_of_mem _ hb))
    simp only [List.flatMap_cons, List.length_append, List.length_cons, Nat.add_mul, Nat.one_mul]
    omega
theorem drop_range (n i : Nat) (h : i < n) : (List.range n).drop i = i :: (List.range n).drop (i + 1) := by
  rw [List.drop_eq_getElem_cons (by simpa using h), List.getElem_range]
theorem legs_ev (l : List S46) (hl : tb_ok l) (node : Int) : Ev (fun k => impl_legsFrom.f k l node) (impl_departures.l0 l node) := by
  obtain ⟨hl24, hl12⟩ := hl
  have e0 : impl_departures.l0 l node = (List.range l.length).flatMap fun i => (List.range (l.getD i z46).f1.length).flatMap (legs_t (l.getD i z46).f1 node i) := rfl
  -- the inner loop: one place's legs
  have inner2 : ∀ (i on : Nat), i < l.length → on < (l.getD i z46).f1.length → (((l.getD i z46).f1.getD on z43).f0 = node) → ∀ (r : List S48) (out : List S48), out.length ≤ 24 * 144 →
      Ev (fun k => impl_legsFrom.l1 k node (out ++ legs_t (l.getD i z46).f1 node i on) i l l.length i (l.getD i z46).f1 (l.getD i z46).f1.length ((on + 1 : Nat) : Int) (l.getD i z46).f0 (l.getD i z46).f1) r →
      Ev (fun k => impl_legsFrom.l2 k node out i on ((on + 1 : Nat) : Int) l l.length i (l.getD i z46).f1 (l.getD i z46).f1.length on (l.getD i z46).f0 (l.getD i z46).f1) r := by
    intro i on hi hon hnode r out hout hr
    have hcs := (hl12 _ (getD_mem z46 l i hi)).1
    generalize hC : (l.getD i z46).f1 = cs at *
    have key : ∀ m, m ≤ cs.length - (on + 1) → Ev (fun k => impl_legsFrom.l2 k node (out ++ ((List.range m).map fun m => (⟨(i : Int), (on : Int), ((on + 1 + m : Nat) : Int)⟩ : S48))) i on ((on + 1 + m : Nat) : Int) l l.length i cs cs.length on (l.getD i z46).f0 cs) r := by
      refine down (cs.length - (on + 1)) ?_ ?_
      · refine ev_at (r := r) (f := fun k => impl_legsFrom.l1 k node (out ++ legs_t cs node i on) i l l.length i cs cs.length ((on + 1 : Nat) : Int) (l.getD i z46).f0 cs) hr (fun k => ?_)
        simp only [impl_legsFrom.l2]
        rw [if_neg (by omega), w64s hon (by omega), legs_t, if_pos hnode]
      · intro m hm ih
        refine ev_at ih (fun k => ?_)
        simp only [impl_legsFrom.l2]
        rw [if_pos (by omega), if_pos (by simp; omega), w64 (by omega) (by omega), List.range_succ, List.map_append]
        rw [show (((on + 1 + m : Nat) : Int) + 1) = ((on + 1 + (m + 1) : Nat) : Int) by omega]
        simp only [List.map_cons, List.map_nil, List.append_assoc]
    have := key 0 (Nat.zero_le _)
    simpa using this
  have inner1 : ∀ (i : Nat), i < l.length → ∀ (r : List S48), ∀ on, on ≤ (l.getD i z46).f1.length → ∀ out : List S48, out.length ≤ 24 * 144 →
      out.length + (((List.range (l.getD i z46).f1.length).drop on).flatMap (legs_t (l.getD i z46).f1 node i)).length ≤ 24 * 144 →
      Ev (fun k => impl_legsFrom.l0 k node (out ++ ((List.range (l.getD i z46).f1.length).drop on).flatMap (legs_t (l.getD i z46).f1 node i)) l l.length ((i + 1 : Nat) : Int)) r →
      Ev (fun k => impl_legsFrom.l1 k node out i l l.length i (l.getD i z46).f1 (l.getD i z46).f1.length (on : Int) (l.getD i z46).f0 (l.getD i z46).f1) r := by
    intro i hi r
    have hcs := (hl12 _ (getD_mem z46 l i hi)).1
    refine down (l.getD i z46).f1.length ?_ ?_
    · intro out _ _ hr
      rw [List.drop_of_length_le (by simp)] at hr
      refine ev_at hr (fun k => ?_)
      simp only [impl_legsFrom.l1]
      rw [if_neg (by omega), w64s hi (by omega)]
      simp
    · intro on hon ih out ho ho2 hr
      rw [drop_range _ on hon, List.flatMap_cons] at hr ho2
      rw [List.length_append] at ho2
      by_cases hnode : ((l.getD i z46).f1.getD on z43).f0 = node
      · have h1 := ih (out ++ legs_t (l.getD i z46).f1 node i on) (by rw [List.length_append]; omega) (by rw [List.length_append]; omega) (by rw [List.append_assoc]; exact hr)
        have h2 := inner2 i on hi hon hnode r out ho h1
        refine ev_at h2 (fun k => ?_)
        simp only [impl_legsFrom.l1]
        rw [if_pos (by omega), if_pos (by omega), if_pos (by omega), if_pos (show (rd_T43 (l.getD i z46).f1 (on : Int)).f0 = node from hnode), w64s hon (by omega)]
      · have e : legs_t (l.getD i z46).f1 node i on = [] := by unfold legs_t; rw [if_neg hnode]
        rw [e] at hr ho2
        have h1 := ih out ho (by simpa using ho2) (by simpa using hr)
        refine ev_at h1 (fun k => ?_)
        simp only [impl_legsFrom.l1]
        rw [if_pos (by omega), if_pos (by omega), if_pos (by omega), if_neg (show ¬ (rd_T43 (l.getD i z46).f1 (on : Int)).f0 = node from hnode), w64s hon (by omega)]
  have tl : ∀ i, i < l.length → ((List.range (l.getD i z46).f1.length).flatMap (legs_t (l.getD i z46).f1 node i)).length ≤ 144 := by
    intro i hi
    have hcs := (hl12 _ (getD_mem z46 l i hi)).1
    have := flat_len (legs_t (l.getD i z46).f1 node i) 12 (List.range (l.getD i z46).f1.length) (fun on _ => Nat.le_trans (legs_t_len _ _ _ _) hcs)
    rw [List.length_range] at this
    have : (l.getD i z46).f1.length * 12 ≤ 12 * 12 := Nat.mul_le_mul_right 12 hcs
    omega
  have outer : ∀ i, i ≤ l.length → ∀ out : List S48, out.length ≤ i * 144 → Ev (fun k => impl_legsFrom.l0 k node out l l.length (i : Int)) (out ++ ((List.range l.length).drop i).flatMap fun i => (List.range (l.getD i z46).f1.length).flatMap (legs_t (l.getD i z46).f1 node i)) := by
    refine down l.length ?_ ?_
    · intro out _
      rw [List.drop_of_length_le (by simp)]
      refine ev_some (fun k => ?_)
      simp only [impl_legsFrom.l0]
      rw [if_neg (by omega)]
      simp
    · intro i hi ih out ho
      have ht := tl i hi
      rw [drop_range _ i hi, List.flatMap_cons, ← List.append_assoc]
      have h1 := ih (out ++ (List.range (l.getD i z46).f1.length).flatMap (legs_t (l.getD i z46).f1 node i)) (by rw [List.length_append]; omega)
      have h2 := inner1 i hi _ 0 (Nat.zero_le _) out (by omega) (by rw [List.drop_zero]; omega) (by rw [List.drop_zero]; exact h1)
      refine ev_at h2 (fun k => ?_)
      simp only [impl_legsFrom.l0]
      rw [if_pos (by omega), if_pos (by omega), if_pos (by omega)]
      rfl
  have := outer 0 (Nat.zero_le _) [] (by simp)
  simpa [e0, impl_legsFrom.f] using this
theorem legs_len {l : List S46} (hl : tb_ok l) (node : Int) : (impl_departures.l0 l node).length ≤ 3456 := by
  have e0 : impl_departures.l0 l node = (List.range l.length).flatMap fun i => (List.range (l.getD i z46).f1.length).flatMap (legs_t (l.getD i z46).f1 node i) := rfl
  rw [e0]
  have h1 := flat_len (fun i => (List.range (l.getD i z46).f1.length).flatMap (legs_t (l.getD i z46).f1 node i)) 144 (List.range l.length) (fun i hi => by
    have hi' := List.mem_range.1 hi
    have hcs := (hl.2 _ (getD_mem z46 l i hi')).1
    have := flat_len (legs_t (l.getD i z46).f1 node i) 12 (List.range (l.getD i z46).f1.length) (fun on _ => Nat.le_trans (legs_t_len _ _ _ _) hcs)
    rw [List.length_range] at this
    have : (l.getD i z46).f1.length * 12 ≤ 12 * 12 := Nat.mul_le_mul_right 12 hcs
    omega)
  rw [List.length_range] at h1
  have := hl.1
  omega
theorem legs_mem {l : List S46} {node : Int} {x : S48} (h : x ∈ impl_departures.l0 l node) : lg_in l x ∧ (impl_departures.l1 l x).f0 = node := by
  unfold impl_departures.l0 at h
  obtain ⟨i, hi, h⟩ := List.mem_flatMap.1 h
  obtain ⟨on, hon, h⟩ := List.mem_flatMap.1 h
  rw [List.mem_range] at hi hon
  split at h
  · rename_i hn
    obtain ⟨m, hm, rfl⟩ := List.mem_map.1 h
    rw [List.mem_range] at hm
    have e : rd_T46 l ((i : Nat) : Int) = l.getD i z46 := rfl
    refine ⟨⟨by dsimp only; omega, by dsimp only; omega, by dsimp only; omega, by dsimp only; omega, ?_⟩, hn⟩
    dsimp only
    rw [e]
    omega
  · simp at h
theorem legs_ok {l : List S46} (hl : tb_ok l) {node : Int} {x : S48} (h : x ∈ impl_departures.l0 l node) : lg_ok l x := by
  have h1 := (legs_mem h).1
  obtain ⟨a, b, c, d, e⟩ := h1
  have ht : rd_T46 l x.f0 ∈ l := getD_mem z46 l _ (by omega)
  have h2 := (hl.2 _ ht).2
  have hoff : rd_T43 (rd_T46 l x.f0).f1 x.f2 ∈ (rd_T46 l x.f0).f1 := getD_mem z43 _ _ (by omega)
  have hon : rd_T43 (rd_T46 l x.f0).f1 x.f1 ∈ (rd_T46 l x.f0).f1 := getD_mem z43 _ _ (by omega)
  have h3 := h2 _ hoff
  have h4 := h2 _ hon
  exact ⟨⟨a, b, c, d, e⟩, h3.1, h3.2.1, h3.2.2.1, h3.2.2.2.1, h4.2.2.2.2.1, h4.2.2.2.2.2⟩
/-- The legs, as they lie in memory. -/
def LGS (W : World) (A : Option Addr) (L : List S48) : Prop := ∀ i, i < L.length → ∃ gl, A = some ⟨gl, 0, none⟩ ∧ ∃ cells : Array Value, W.heap[gl]? = some (.cells cells 48 (0, 0)) ∧ cells[i * 3]? = some (.int .i64 (L.getD i z48).f0) ∧ cells[i * 3 + 1]? = some (.int .i64 (L.getD i z48).f1) ∧ cells[i * 3 + 2]? = some (.int .i64 (L.getD i z48).f2)
theorem lgs_below {W W' : World} {A : Option Addr} {L : List S48} (h : LGS W A L) (hb : Below W.heap.size W W') : LGS W' A L := by
  intro i hi
  obtain ⟨gl, e, cells, h1, h2⟩ := h i hi
  exact ⟨gl, e, cells, blk_below h1 hb, h2⟩
theorem lgs_set {W : World} {A : Option Addr} {L : List S48} (h : LGS W A L) {g n cap : Nat} {o : List Int} (ha : AR W g n cap o) (j : Nat) (v : Value) : LGS (W.setCell ⟨g, j, none⟩ v) A L := by
  intro i hi
  obtain ⟨gl, e, cells, h1, h2⟩ := h i hi
  refine ⟨gl, e, cells, blk_far h1 (p := ⟨g, j, none⟩) (fun he => ?_) v, h2⟩
  obtain ⟨_, _, cur, hc, _⟩ := ha
  have he' : gl = g := he
  rw [he', hc] at h1
  injection h1 with h1
  injection h1 with _ h3 _
  exact absurd h3 (by decide)
theorem lgs_of {W : World} {base : Nat} {ok : Nat → Prop} {v : Value} {L : List S48} (h : Kd.R k48 48 W base ok v L) : ∃ A c, v = .slice A L.length c ∧ LGS W A L := by
  obtain ⟨A, c, rfl⟩ := Kd.R_slice h
  refine ⟨A, c, rfl, fun i hi => ?_⟩
  obtain ⟨go, co, eo, _, _, cells, hc⟩ := Kd.R_form h (by omega)
  injection eo with ea _ _
  subst ea
  obtain ⟨ad, e, h0, h1, h2⟩ := at_T48 (Kd.R_reads' h).2.2 (i : Int) (by omega) (by omega)
  injection e with e
  subst e
  rw [Int.toNat_natCast] at h0 h1 h2
  have e0 : (⟨go, 0, none⟩ : Addr).add (i * 3) = ⟨go, i * 3, none⟩ := by
    unfold Addr.add
    split <;> simp_all
  rw [e0] at h0 h1 h2
  rw [blk_cell hc] at h0
  refine ⟨go, rfl, cells, hc, h0, ?_, ?_⟩
  · have := h1; rw [blk_cell hc] at this; exact this
  · have := h2; rw [blk_cell hc] at this; exact this
end Go.Proofs.YtdpjoblnjjkbfaaDoor.P

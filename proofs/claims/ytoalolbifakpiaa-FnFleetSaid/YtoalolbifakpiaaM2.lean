/- Fleet: the number of units is the number of tasks less the greatest matching. -/
import Derived.Test.YtoalolbifakpiaaM1
namespace Go.Proofs.Ytoalolbifakpiaa.Pure
open Go.RowKit Go.Proofs.Ytoalolbifakpiaa.P Go.Proofs.YtoalolbifakpiaaW.PrintWords Go.Proofs.YtoalolbifakpiaaW.PrintLast

theorem nodup_sub_len {α : Type} [DecidableEq α] : ∀ (l c : List α), l.Nodup → (∀ x, x ∈ l → x ∈ c) → l.length ≤ c.length
  | [], c, _, _ => by simp
  | x :: l, c, h, hs => by
    rw [List.nodup_cons] at h
    have hx : x ∈ c := hs x (by simp)
    have h1 : l.length ≤ (c.erase x).length := nodup_sub_len l (c.erase x) h.2 (fun y hy => by
      have hne : y ≠ x := fun e => h.1 (e ▸ hy)
      exact (List.mem_erase_of_ne hne).2 (hs y (by simp [hy])))
    have h2 := List.length_erase_of_mem hx
    have h3 := List.length_pos_of_mem hx
    simp only [List.length_cons]
    omega

structure IsM (E : Nat → Nat → Prop) (M : List (Nat × Nat)) : Prop where
  fst : (M.map Prod.fst).Nodup
  snd : (M.map Prod.snd).Nodup
  edge : ∀ p, p ∈ M → E p.1 p.2

theorem cover_bound {E : Nat → Nat → Prop} {M : List (Nat × Nat)} (h : IsM E M) (C1 C2 : List Nat)
    (hc : ∀ a b, E a b → a ∈ C1 ∨ b ∈ C2) : M.length ≤ C1.length + C2.length := by
  have key : ∀ (M : List (Nat × Nat)), (M.map Prod.fst).Nodup → (M.map Prod.snd).Nodup → (∀ p, p ∈ M → p.1 ∈ C1 ∨ p.2 ∈ C2) →
      M.length ≤ C1.length + C2.length := by
    intro M h1 h2 h3
    have hp : M.length = (M.filter (fun p => decide (p.1 ∈ C1))).length + (M.filter (fun p => !decide (p.1 ∈ C1))).length := by
      clear h1 h2 h3
      induction M with
      | nil => rfl
      | cons p M ih =>
        by_cases hp : p.1 ∈ C1
        · simp only [List.filter_cons, hp, decide_true, if_true, Bool.not_true, List.length_cons]
          simp only [Bool.false_eq_true, if_false]
          omega
        · simp only [List.filter_cons, hp, decide_false, Bool.not_false, if_true, List.length_cons]
          simp only [Bool.false_eq_true, if_false]
          omega
    have a1 : ((M.filter (fun p => decide (p.1 ∈ C1))).map Prod.fst).length ≤ C1.length := by
      refine nodup_sub_len _ _ ((List.filter_sublist.map _).nodup h1) ?_
      intro x hx
      simp only [List.mem_map, List.mem_filter, decide_eq_true_eq] at hx
      obtain ⟨p, ⟨_, hp⟩, rfl⟩ := hx
      exact hp
    have a2 : ((M.filter (fun p => !decide (p.1 ∈ C1))).map Prod.snd).length ≤ C2.length := by
      refine nodup_sub_len _ _ ((List.filter_sublist.map _).nodup h2) ?_
      intro x hx
      simp only [List.mem_map, List.mem_filter, Bool.not_eq_true', decide_eq_false_iff_not] at hx
      obtain ⟨p, ⟨hm, hp⟩, rfl⟩ := hx
      rcases h3 p hm with h | h
      · exact absurd h hp
      · exact h
    rw [List.length_map] at a1 a2
    omega
  exact key M h.fst h.snd (fun p hp => hc _ _ (h.edge p hp))


/-- A search that finds moves nothing within a closed set. -/
theorem search_keeps (l : List S25) (turn : Int) (D : Nat → Prop) (bf : List Int) (hbl : bf.length = l.length) (hlt : ∀ x, x < l.length → bt bf x < l.length) (hD : ∀ x, x < l.length → D x → 0 ≤ bt bf x ∧ ∀ z, z < l.length → Ed l turn (bt bf x).toNat z → D z) :
    ∀ (k a : Nat) (sn : List Bool) (b : Nat) (bf' : List Int) (sn' : List Bool), sn.length = l.length → impl_Fleet.l0 l turn k (a : Int) bf sn (b : Int) = some (true, bf', sn') → bf'.length = l.length ∧ ∀ x, x < l.length → D x → bt bf' x = bt bf x
  | 0, a, sn, b, bf', sn', _, h => by simp [impl_Fleet.l0] at h
  | k + 1, a, sn, b, bf', sn', hs, h => by
    rcases l0_step h with ⟨c, e⟩ | ⟨c, hn, h2⟩ | ⟨c, _, hE, hneg, e⟩ | ⟨c, hns, hE, h0, r1, h1, h2⟩
    · simp at e
    · exact search_keeps l turn D bf hbl hlt hD k a sn (b + 1) bf' sn' hs h2
    · simp only [Prod.mk.injEq, true_and] at e
      obtain ⟨rfl, rfl⟩ := e
      refine ⟨by rw [List.length_set]; exact hbl, fun x hx hDx => ?_⟩
      rw [bt_set bf b x _ (by omega), if_neg (fun e => by have := (hD x hx hDx).1; rw [e] at this; omega)]
    · rcases h2 with ⟨c4, e⟩ | ⟨c4, h2⟩
      · obtain ⟨q, bf1, sn1⟩ := r1
        simp only at c4 e
        subst c4
        simp only [Prod.mk.injEq, true_and] at e
        obtain ⟨rfl, rfl⟩ := e
        obtain ⟨g1, g2⟩ := search_keeps l turn D bf hbl hlt hD k (bt bf b).toNat (sn.set b true) 0 bf1 sn' (by rw [List.length_set]; exact hs) h1
        refine ⟨by rw [List.length_set]; exact g1, fun x hx hDx => ?_⟩
        rw [bt_set bf1 b x _ (by omega)]
        by_cases e : x = b
        · subst e
          have := search_dead l turn D bf hbl hlt hD k (bt bf x).toNat (sn.set x true) 0 _ (by rw [List.length_set]; exact hs) (hD x hx hDx).2 h1
          simp at this
        · rw [if_neg e]; exact g2 x hx hDx
      · obtain ⟨q, bf1, sn1⟩ := r1
        simp only at c4 h2
        subst c4
        obtain ⟨f1, f2, _⟩ := search_fails l turn k (bt bf b).toNat bf (sn.set b true) 0 bf1 sn1 hbl (by rw [List.length_set]; exact hs) hlt h1
        subst f1
        exact search_keeps l turn D bf1 hbl hlt hD k a sn1 (b + 1) bf' sn' f2 h2
/-- Fleet so far. -/
structure Fi (l : List S25) (turn : Int) (a : Nat) (bf : List Int) (u : Int) (D : Nat → Prop) : Prop where
  bl : bf.length = l.length
  lt : ∀ x, x < l.length → bt bf x < a
  inj : ∀ x y, x < l.length → y < l.length → 0 ≤ bt bf x → bt bf x = bt bf y → x = y
  edge : ∀ x, x < l.length → 0 ≤ bt bf x → Ed l turn (bt bf x).toNat x
  cnt : (bf.countP (fun x => decide (0 ≤ x)) : Int) = (l.length : Int) - u
  dead : ∀ x, x < l.length → D x → 0 ≤ bt bf x ∧ ∀ z, z < l.length → Ed l turn (bt bf x).toNat z → D z
  done : ∀ y, y < a → (∃ x, x < l.length ∧ bt bf x = y) ∨ (∀ z, z < l.length → Ed l turn y z → D z)
theorem se_none (n x : Nat) : ¬ se (List.replicate n false) x := by
  unfold se
  rw [List.getD_eq_getElem?_getD, List.getElem?_replicate]
  split <;> simp
theorem Fi.step {l : List S25} {turn : Int} {a : Nat} {bf : List Int} {u : Int} {D : Nat → Prop} (h : Fi l turn a bf u D) (ha : a < l.length) {k : Nat} {q : Bool} {bf' : List Int} {sn' : List Bool} (hr : impl_Fleet.l0 l turn k (a : Int) bf (List.replicate l.length false) 0 = some (q, bf', sn')) :
    ∃ D', Fi l turn (a + 1) bf' (if q = true then u - 1 else u) D' := by
  have hlt : ∀ x, x < l.length → bt bf x < l.length := fun x hx => by have := h.lt x hx; omega
  have hs : (List.replicate l.length false).length = l.length := by simp
  cases q with
  | false =>
    obtain ⟨f1, f2, f3, f4, f5⟩ := search_fails l turn k a bf (List.replicate l.length false) 0 bf' sn' h.bl hs hlt hr
    subst f1
    refine ⟨fun x => D x ∨ se sn' x, h.bl, fun x hx => by have := h.lt x hx; omega, h.inj, h.edge, by simpa using h.cnt, fun x hx hd => ?_, fun y hy => ?_⟩
    · rcases hd with hd | hd
      · exact ⟨(h.dead x hx hd).1, fun z hz hez => Or.inl ((h.dead x hx hd).2 z hz hez)⟩
      · have := f5 x hx hd (se_none _ _)
        exact ⟨this.1, fun z hz hez => Or.inr (this.2 z hz hez)⟩
    · by_cases e : y = a
      · rw [e]; exact Or.inr (fun z hz hez => Or.inr (f4 z (by omega) hz hez))
      · rcases h.done y (by omega) with h1 | h1
        · exact Or.inl h1
        · exact Or.inr (fun z hz hez => Or.inl (h1 z hz hez))
  | true =>
    have F := search_finds l turn k a bf (List.replicate l.length false) 0 bf' sn' h.bl hs hlt h.inj (fun x hx _ e => by have := h.lt x hx; omega) hr
    obtain ⟨_, K⟩ := search_keeps l turn D bf h.bl hlt h.dead k a (List.replicate l.length false) 0 bf' sn' hs hr
    refine ⟨D, F.len, fun x hx => ?_, fun x y hx hy hp he => F.inj x y hx hy (se_none _ _) (se_none _ _) hp he, fun x hx hp => ?_, ?_, fun x hx hd => ?_, fun y hy => ?_⟩
    · by_cases c : 0 ≤ bt bf' x
      · rcases F.src x hx (se_none _ _) c with e | ⟨y, y1, _, y3⟩
        · omega
        · have := h.lt y y1; omega
      · omega
    · rcases F.edge x hx hp with e | e
      · rw [e]; exact h.edge x hx (by omega)
      · exact e
    · have := F.cnt
      have h2 := h.cnt
      rw [if_pos rfl]
      omega
    · rw [K x hx hd]; exact h.dead x hx hd
    · by_cases e : y = a
      · obtain ⟨x, x1, _, x3⟩ := F.hasA
        exact Or.inl ⟨x, x1, by rw [x3, e]⟩
      · rcases h.done y (by omega) with ⟨x, x1, x2⟩ | h1
        · obtain ⟨z, z1, _, z3⟩ := F.kept x x1 (se_none _ _) (by omega)
          exact Or.inl ⟨z, z1, by rw [z3, x2]⟩
        · exact Or.inr h1
theorem Fi.all {l : List S25} {turn : Int} {k : Nat} {v : Int} : ∀ (m a : Nat) (bf : List Int) (u : Int) (D : Nat → Prop), a + m = l.length → Fi l turn a bf u D → impl_Fleet.l1 l turn k ((List.range l.length).drop a) bf u = some v → ∃ bf' D', Fi l turn l.length bf' v D'
  | 0, a, bf, u, D, hm, h, hr => by
    rw [List.drop_of_length_le (by simp; omega), impl_Fleet.l1] at hr
    have e : a = l.length := by omega
    subst e
    obtain rfl := Option.some.inj hr
    exact ⟨bf, D, h⟩
  | m + 1, a, bf, u, D, hm, h, hr => by
    have ha : a < l.length := by omega
    have hd : (List.range l.length).drop a = a :: (List.range l.length).drop (a + 1) := by
      rw [List.drop_eq_getElem_cons (by simpa using ha), List.getElem_range]
    rw [hd, impl_Fleet.l1] at hr
    obtain ⟨r, h1, h2⟩ := Option.bind_eq_some_iff.1 hr
    obtain ⟨q, bf', sn'⟩ := r
    obtain ⟨D', hD'⟩ := h.step ha h1
    exact Fi.all m (a + 1) bf' _ D' (by omega) hD' h2
/-- The edges among the tasks. -/
def En (l : List S25) (turn : Int) (a b : Nat) : Prop := a < l.length ∧ b < l.length ∧ Ed l turn a b
theorem cnt_range (bf : List Int) (p : Int → Bool) : (List.range bf.length).countP (fun x => p (bt bf x)) = bf.countP p := by
  have e : bf = (List.range bf.length).map (fun x => bt bf x) := by
    apply List.ext_getElem
    · simp
    · intro i h1 h2
      rw [List.getElem_map, List.getElem_range]
      unfold bt
      rw [List.getD_eq_getElem?_getD, List.getElem?_eq_getElem h1]; rfl
  conv => rhs; rw [e]
  rw [List.countP_map]
  rfl
theorem part_len (d p : Nat → Bool) : ∀ (R : List Nat), (∀ x, x ∈ R → d x = true → p x = true) → (R.filter d).length + (R.filter (fun x => !d x && p x)).length ≤ (R.filter p).length
  | [], _ => by simp
  | x :: R, h => by
    have ih := part_len d p R (fun y hy => h y (by simp [hy]))
    rw [List.filter_cons, List.filter_cons, List.filter_cons]
    cases hd : d x with
    | true =>
      have hp := h x (by simp) hd
      simp only [hp, Bool.not_true, Bool.false_and, if_true, Bool.false_eq_true, if_false, List.length_cons]
      omega
    | false =>
      cases hp : p x with
      | true =>
        simp only [Bool.not_false, Bool.true_and, if_true, Bool.false_eq_true, if_false, List.length_cons]
        omega
      | false =>
        simp only [Bool.not_false, Bool.true_and, Bool.false_eq_true, if_false]
        omega
open Classical in
theorem Fi.max {l : List S25} {turn : Int} {bf : List Int} {v : Int} {D : Nat → Prop} (h : Fi l turn l.length bf v D) : (∃ M, IsM (En l turn) M ∧ (M.length : Int) = l.length - v) ∧ ∀ M, IsM (En l turn) M → (M.length : Int) ≤ l.length - v := by
  have hX : ((List.range l.length).filter (fun x => decide (0 ≤ bt bf x))).length = bf.countP (fun x => decide (0 ≤ x)) := by
    have := cnt_range bf (fun x => decide (0 ≤ x))
    rw [h.bl] at this
    rw [← this, List.countP_eq_length_filter]
  have hc := h.cnt
  refine ⟨⟨((List.range l.length).filter (fun x => decide (0 ≤ bt bf x))).map (fun x => ((bt bf x).toNat, x)), ⟨?_, ?_, ?_⟩, by rw [List.length_map, hX]; exact hc⟩, fun M hM => ?_⟩
  · rw [List.map_map]
    refine List.Pairwise.map _ (R := fun x y => (x < l.length ∧ 0 ≤ bt bf x) ∧ (y < l.length ∧ 0 ≤ bt bf y) ∧ x ≠ y) ?_ ?_
    · rintro x y ⟨⟨x1, x2⟩, ⟨y1, y2⟩, hne⟩ e
      simp only [Function.comp] at e
      exact hne (h.inj x y x1 y1 x2 (by omega))
    · refine List.Pairwise.imp_of_mem ?_ ((List.filter_sublist).nodup (List.nodup_range (n := l.length)))
      intro x y hx hy hne
      rw [List.mem_filter, List.mem_range, decide_eq_true_eq] at hx hy
      exact ⟨hx, hy, hne⟩
  · rw [List.map_map]
    have : (Prod.snd ∘ fun x => ((bt bf x).toNat, x)) = (id : Nat → Nat) := rfl
    rw [this, List.map_id]
    exact (List.filter_sublist).nodup (List.nodup_range (n := l.length))
  · intro p hp
    obtain ⟨x, hx, rfl⟩ := List.mem_map.1 hp
    rw [List.mem_filter, List.mem_range, decide_eq_true_eq] at hx
    have := h.lt x hx.1
    exact ⟨by show (bt bf x).toNat < l.length; omega, hx.1, h.edge x hx.1 hx.2⟩
  · obtain ⟨d, hd⟩ : ∃ d : Nat → Bool, ∀ x, d x = true ↔ D x := ⟨fun x => decide (D x), fun x => decide_eq_true_iff⟩
    have hcv := cover_bound hM (((List.range l.length).filter (fun x => !d x && decide (0 ≤ bt bf x))).map (fun x => (bt bf x).toNat)) ((List.range l.length).filter d) (fun a b hab => by
      obtain ⟨ha, hb, hE⟩ := hab
      rcases h.done a ha with ⟨x, x1, x2⟩ | h1
      · by_cases hdx : D x
        · refine Or.inr (List.mem_filter.2 ⟨List.mem_range.2 hb, (hd b).2 ?_⟩)
          exact (h.dead x x1 hdx).2 b hb (by rw [x2, Int.toNat_natCast]; exact hE)
        · refine Or.inl (List.mem_map.2 ⟨x, List.mem_filter.2 ⟨List.mem_range.2 x1, ?_⟩, by rw [x2, Int.toNat_natCast]⟩)
          have e : d x = false := by
            cases hh : d x with
            | true => exact absurd ((hd x).1 hh) hdx
            | false => rfl
          rw [e, decide_eq_true (show 0 ≤ bt bf x by omega)]; rfl
      · exact Or.inr (List.mem_filter.2 ⟨List.mem_range.2 hb, (hd b).2 (h1 b hb hE)⟩))
    have hp := part_len d (fun x => decide (0 ≤ bt bf x)) (List.range l.length) (fun x hx hdx => decide_eq_true (h.dead x (List.mem_range.1 hx) ((hd x).1 hdx)).1)
    rw [List.length_map] at hcv
    omega
/-- The number of units of right tasks. -/
theorem fleet_max (l : List S25) (turn v : Int) (hl : tasksB l = true) (htb : inB turn 0 120 = true) (h : Ev (fun k => impl_Fleet.f k l turn) v) : (∃ M, IsM (En l turn) M ∧ (M.length : Int) = l.length - v) ∧ ∀ M, IsM (En l turn) M → (M.length : Int) ≤ l.length - v := by
  obtain ⟨h40, hta⟩ := tasksB_parts hl
  have e2 := impl_tasks l (by omega)
  rw [hl] at e2
  obtain ⟨K1, g1⟩ := h
  obtain ⟨K2, g2⟩ := e2
  obtain ⟨k, hk1⟩ : ∃ k, k = max K1 K2 := ⟨_, rfl⟩
  have hk := g1 k (by omega)
  have ht := g2 k (by omega)
  unfold impl_Fleet.f at hk
  simp only at hk ht
  rw [ht, Option.bind_some] at hk
  rw [if_pos rfl, turn_okF, htb, Option.bind_some, if_pos rfl] at hk
  have h0 : Fi l turn 0 (List.replicate l.length (-1)) (l.length : Int) (fun _ => False) := by
    have hb : ∀ x, x < l.length → bt (List.replicate l.length (-1)) x = -1 := fun x hx => by
      unfold bt; rw [List.getD_eq_getElem?_getD, List.getElem?_replicate, if_pos hx]; rfl
    refine ⟨by simp, fun x hx => by rw [hb x hx]; omega, fun x y hx _ hp _ => by rw [hb x hx] at hp; omega, fun x hx hp => by rw [hb x hx] at hp; omega, ?_, fun x _ hd => hd.elim, fun y hy => by omega⟩
    rw [List.countP_eq_zero.2 (fun x hx => by rw [List.eq_of_mem_replicate hx]; decide)]
    omega
  obtain ⟨bf, D, hF⟩ := Fi.all l.length 0 _ _ _ (by omega) h0 (by rw [List.drop_zero]; exact hk)
  exact hF.max
end Go.Proofs.Ytoalolbifakpiaa.Pure

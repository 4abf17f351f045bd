/- The search of Fleet: what it tells when it fails and when it finds. -/
import Derived.Test.YtoalolbifakpiaaC15
namespace Go.Proofs.Ytoalolbifakpiaa.Pure
open Go.RowKit Go.Proofs.Ytoalolbifakpiaa.P Go.Proofs.YtoalolbifakpiaaW.PrintWords Go.Proofs.YtoalolbifakpiaaW.PrintLast

def Ed (l : List S25) (turn : Int) (a b : Nat) : Prop := impl_Fleet.l3 turn (rd_T25 l (a : Int)) (rd_T25 l (b : Int)) = true
def bt (bf : List Int) (x : Nat) : Int := bf.getD x 0
def se (sn : List Bool) (x : Nat) : Prop := sn.getD x false = true
theorem se_set (sn : List Bool) (b x : Nat) (h : b < sn.length) : se (sn.set b true) x ↔ x = b ∨ se sn x := by
  unfold se
  rw [List.getD_eq_getElem?_getD, List.getElem?_set]
  by_cases e : b = x
  · rw [if_pos e, if_pos h]; simp [e]
  · rw [if_neg e, ← List.getD_eq_getElem?_getD]
    constructor
    · intro h; exact Or.inr h
    · rintro (h | h)
      · exact absurd h.symm e
      · exact h
theorem bt_set (bf : List Int) (b x : Nat) (v : Int) (h : b < bf.length) : bt (bf.set b v) x = if x = b then v else bt bf x := by
  unfold bt
  rw [List.getD_eq_getElem?_getD, List.getElem?_set]
  by_cases e : b = x
  · rw [if_pos e, if_pos h, if_pos e.symm]; rfl
  · rw [if_neg e, if_neg (fun h => e h.symm), ← List.getD_eq_getElem?_getD]
/-- One step of the search, as a rule. -/
theorem l0_step {l : List S25} {turn : Int} {k a : Nat} {bf : List Int} {sn : List Bool} {b : Nat} {r : Bool × List Int × List Bool} (h : impl_Fleet.l0 l turn (k + 1) (a : Int) bf sn (b : Int) = some r) :
    (¬ b < l.length ∧ r = (false, bf, sn)) ∨
    (b < l.length ∧ (se sn b ∨ ¬ Ed l turn a b) ∧ impl_Fleet.l0 l turn k (a : Int) bf sn ((b + 1 : Nat) : Int) = some r) ∨
    (b < l.length ∧ ¬ se sn b ∧ Ed l turn a b ∧ bt bf b < 0 ∧ r = (true, bf.set b (a : Int), sn.set b true)) ∨
    (b < l.length ∧ ¬ se sn b ∧ Ed l turn a b ∧ 0 ≤ bt bf b ∧ ∃ r1, impl_Fleet.l0 l turn k (((bt bf b).toNat : Nat) : Int) bf (sn.set b true) ((0 : Nat) : Int) = some r1 ∧
      ((r1.1 = true ∧ r = (true, r1.2.1.set b (a : Int), r1.2.2)) ∨ (r1.1 = false ∧ impl_Fleet.l0 l turn k (a : Int) r1.2.1 r1.2.2 ((b + 1 : Nat) : Int) = some r))) := by
  rw [impl_Fleet.l0] at h
  have e1 : ((b : Int) + 1) = ((b + 1 : Nat) : Int) := by omega
  have er : rdOf false sn (b : Int) = sn.getD b false := by unfold rdOf; rw [Int.toNat_natCast]
  have eb : rd bf (b : Int) = bt bf b := by unfold rd bt; rw [Int.toNat_natCast]
  rw [er, eb, e1, Int.toNat_natCast] at h
  by_cases c : b < l.length
  · rw [if_pos (by omega)] at h
    by_cases c1 : sn.getD b false = true
    · rw [if_pos c1] at h
      exact Or.inr (Or.inl ⟨c, Or.inl c1, h⟩)
    · rw [if_neg c1] at h
      by_cases c2 : impl_Fleet.l3 turn (rd_T25 l (a : Int)) (rd_T25 l (b : Int)) = false
      · rw [if_pos c2] at h
        exact Or.inr (Or.inl ⟨c, Or.inr (by unfold Ed; rw [c2]; simp), h⟩)
      · rw [if_neg c2] at h
        have hE : Ed l turn a b := by unfold Ed; simpa using c2
        by_cases c3 : bt bf b < 0
        · rw [if_pos c3] at h
          exact Or.inr (Or.inr (Or.inl ⟨c, c1, hE, c3, (Option.some.inj h).symm⟩))
        · rw [if_neg c3] at h
          obtain ⟨r1, h1, h2⟩ := Option.bind_eq_some_iff.1 h
          refine Or.inr (Or.inr (Or.inr ⟨c, c1, hE, by omega, r1, ?_, ?_⟩))
          · rw [Int.toNat_of_nonneg (by omega)]; exact h1
          · by_cases c4 : r1.1 = true
            · rw [if_pos c4] at h2
              exact Or.inl ⟨c4, (Option.some.inj h2).symm⟩
            · rw [if_neg c4] at h2
              exact Or.inr ⟨by simpa using c4, h2⟩
  · rw [if_neg (by omega)] at h
    exact Or.inl ⟨c, (Option.some.inj h).symm⟩
/-- A search that fails: nothing is moved, and all that could be asked was asked. -/
theorem search_fails (l : List S25) (turn : Int) : ∀ (k a : Nat) (bf : List Int) (sn : List Bool) (b : Nat) (bf' : List Int) (sn' : List Bool), bf.length = l.length → sn.length = l.length → (∀ x, x < l.length → bt bf x < l.length) → impl_Fleet.l0 l turn k (a : Int) bf sn (b : Int) = some (false, bf', sn') →
    bf' = bf ∧ sn'.length = l.length ∧ (∀ x, se sn x → se sn' x) ∧ (∀ y, b ≤ y → y < l.length → Ed l turn a y → se sn' y) ∧ (∀ y, y < l.length → se sn' y → ¬ se sn y → 0 ≤ bt bf y ∧ ∀ z, z < l.length → Ed l turn (bt bf y).toNat z → se sn' z)
  | 0, a, bf, sn, b, bf', sn', _, _, _, h => by simp [impl_Fleet.l0] at h
  | k + 1, a, bf, sn, b, bf', sn', hb, hs, hlt, h => by
    rcases l0_step h with ⟨c, e⟩ | ⟨c, hn, h2⟩ | ⟨_, _, _, _, e⟩ | ⟨c, hns, hE, h0, r1, h1, h2⟩
    · simp only [Prod.mk.injEq, true_and] at e
      obtain ⟨rfl, rfl⟩ := e
      exact ⟨rfl, hs, fun _ h => h, fun y h1 h2 _ => absurd h2 (by omega), fun y _ h1 h2 => absurd h1 h2⟩
    · obtain ⟨g1, g2, g3, g4, g5⟩ := search_fails l turn k a bf sn (b + 1) bf' sn' hb hs hlt h2
      refine ⟨g1, g2, g3, fun y hy1 hy2 hy3 => ?_, g5⟩
      by_cases e : y = b
      · rcases hn with hn | hn
        · exact g3 y (by rw [e]; exact hn)
        · exact absurd (by rw [← e]; exact hy3) hn
      · exact g4 y (by omega) hy2 hy3
    · simp at e
    · rcases h2 with ⟨_, e⟩ | ⟨c4, h2⟩
      · simp at e
      · obtain ⟨q, bf1, sn1⟩ := r1
        simp only at c4 h2
        subst c4
        obtain ⟨f1, f2, f3, f4, f5⟩ := search_fails l turn k (bt bf b).toNat bf (sn.set b true) 0 bf1 sn1 hb (by rw [List.length_set]; exact hs) hlt h1
        subst f1
        obtain ⟨g1, g2, g3, g4, g5⟩ := search_fails l turn k a bf1 sn1 (b + 1) bf' sn' hb f2 hlt h2
        have up : ∀ x, se sn x → se sn1 x := fun x hx => f3 x ((se_set sn b x (by omega)).2 (Or.inr hx))
        have hbs : se sn1 b := f3 b ((se_set sn b b (by omega)).2 (Or.inl rfl))
        refine ⟨g1, g2, fun x hx => g3 x (up x hx), fun y hy1 hy2 hy3 => ?_, fun y hy hy1 hy2 => ?_⟩
        · by_cases e : y = b
          · rw [e]; exact g3 b hbs
          · exact g4 y (by omega) hy2 hy3
        · by_cases e : se sn1 y
          · by_cases e2 : y = b
            · subst e2
              exact ⟨h0, fun z hz hez => g3 z (f4 z (by omega) hz hez)⟩
            · obtain ⟨p1, p2⟩ := f5 y hy e (fun h => by rcases (se_set sn b y (by omega)).1 h with h | h; (· exact e2 h); exact hy2 h)
              exact ⟨p1, fun z hz hez => g3 z (p2 z hz hez)⟩
          · exact g5 y hy hy1 e
/-- Within a closed set nothing is found. -/
theorem search_dead (l : List S25) (turn : Int) (D : Nat → Prop) (bf : List Int) (hbl : bf.length = l.length) (hlt : ∀ x, x < l.length → bt bf x < l.length) (hD : ∀ x, x < l.length → D x → 0 ≤ bt bf x ∧ ∀ z, z < l.length → Ed l turn (bt bf x).toNat z → D z) :
    ∀ (k a : Nat) (sn : List Bool) (b : Nat) (r : Bool × List Int × List Bool), sn.length = l.length → (∀ z, z < l.length → Ed l turn a z → D z) → impl_Fleet.l0 l turn k (a : Int) bf sn (b : Int) = some r → r.1 = false
  | 0, a, sn, b, r, _, _, h => by simp [impl_Fleet.l0] at h
  | k + 1, a, sn, b, r, hs, hN, h => by
    rcases l0_step h with ⟨c, e⟩ | ⟨c, hn, h2⟩ | ⟨c, _, hE, hneg, e⟩ | ⟨c, hns, hE, h0, r1, h1, h2⟩
    · rw [e]
    · exact search_dead l turn D bf hbl hlt hD k a sn (b + 1) r hs hN h2
    · have := (hD b c (hN b c hE)).1; omega
    · have hb := hD b c (hN b c hE)
      have hf := search_dead l turn D bf hbl hlt hD k (bt bf b).toNat (sn.set b true) 0 r1 (by rw [List.length_set]; exact hs) hb.2 h1
      rcases h2 with ⟨e, _⟩ | ⟨_, h2⟩
      · rw [hf] at e; simp at e
      · obtain ⟨q, bf1, sn1⟩ := r1
        simp only at hf h2
        subst hf
        obtain ⟨f1, f2, _⟩ := search_fails l turn k (bt bf b).toNat bf (sn.set b true) 0 bf1 sn1 hbl (by rw [List.length_set]; exact hs) hlt h1
        subst f1
        exact search_dead l turn D bf1 hbl hlt hD k a sn1 (b + 1) r f2 hN h2
/-- What a search that finds makes of the row. -/
structure Found (l : List S25) (turn : Int) (a : Nat) (bf : List Int) (sn : List Bool) (bf' : List Int) : Prop where
  len : bf'.length = l.length
  old : ∀ x, x < l.length → se sn x → bt bf' x = bt bf x
  pos : ∀ x, x < l.length → 0 ≤ bt bf x → 0 ≤ bt bf' x
  src : ∀ x, x < l.length → ¬ se sn x → 0 ≤ bt bf' x → bt bf' x = a ∨ ∃ y, y < l.length ∧ ¬ se sn y ∧ bt bf y = bt bf' x
  edge : ∀ x, x < l.length → 0 ≤ bt bf' x → bt bf' x = bt bf x ∨ Ed l turn (bt bf' x).toNat x
  inj : ∀ x y, x < l.length → y < l.length → ¬ se sn x → ¬ se sn y → 0 ≤ bt bf' x → bt bf' x = bt bf' y → x = y
  hasA : ∃ x, x < l.length ∧ ¬ se sn x ∧ bt bf' x = a
  kept : ∀ y, y < l.length → ¬ se sn y → 0 ≤ bt bf y → ∃ x, x < l.length ∧ ¬ se sn x ∧ bt bf' x = bt bf y
  cnt : bf'.countP (fun x => decide (0 ≤ x)) = bf.countP (fun x => decide (0 ≤ x)) + 1
theorem cnt_set : ∀ (bf : List Int) (b : Nat) (v : Int), b < bf.length → 0 ≤ v → (bf.set b v).countP (fun x => decide (0 ≤ x)) = bf.countP (fun x => decide (0 ≤ x)) + (if bt bf b < 0 then 1 else 0)
  | [], b, v, h, _ => absurd h (by simp)
  | x :: bf, 0, v, _, hv => by
    have e : bt (x :: bf) 0 = x := rfl
    rw [e, List.set_cons_zero, List.countP_cons, List.countP_cons]
    simp only [decide_eq_true_eq]
    by_cases c : x < 0
    · rw [if_pos hv, if_neg (by omega), if_pos c]
    · rw [if_pos hv, if_pos (by omega), if_neg c]
  | x :: bf, b + 1, v, h, hv => by
    have e : bt (x :: bf) (b + 1) = bt bf b := by unfold bt; simp
    rw [e, List.set_cons_succ, List.countP_cons, List.countP_cons, cnt_set bf b v (by simpa using h) hv]
    omega
theorem search_finds (l : List S25) (turn : Int) : ∀ (k a : Nat) (bf : List Int) (sn : List Bool) (b : Nat) (bf' : List Int) (sn' : List Bool), bf.length = l.length → sn.length = l.length → (∀ x, x < l.length → bt bf x < l.length) → (∀ x y, x < l.length → y < l.length → 0 ≤ bt bf x → bt bf x = bt bf y → x = y) → (∀ x, x < l.length → ¬ se sn x → bt bf x ≠ a) → impl_Fleet.l0 l turn k (a : Int) bf sn (b : Int) = some (true, bf', sn') → Found l turn a bf sn bf'
  | 0, a, bf, sn, b, bf', sn', _, _, _, _, _, h => by simp [impl_Fleet.l0] at h
  | k + 1, a, bf, sn, b, bf', sn', hb, hs, hlt, hinj, ha, h => by
    rcases l0_step h with ⟨c, e⟩ | ⟨c, hn, h2⟩ | ⟨c, hns, hE, hneg, e⟩ | ⟨c, hns, hE, h0, r1, h1, h2⟩
    · simp at e
    · exact search_finds l turn k a bf sn (b + 1) bf' sn' hb hs hlt hinj ha h2
    · simp only [Prod.mk.injEq, true_and] at e
      obtain ⟨rfl, rfl⟩ := e
      have hbs := fun x => bt_set bf b x (a : Int) (by omega)
      refine ⟨by rw [List.length_set]; exact hb, fun x hx hsx => ?_, fun x hx hp => ?_, fun x hx hsx hp => ?_, fun x hx hp => ?_, fun x y hx hy hsx hsy hp he => ?_, ⟨b, c, hns, by rw [hbs, if_pos rfl]⟩, fun y hy hsy hp => ?_, ?_⟩
      · rw [hbs, if_neg (fun e => hns (by rw [← e]; exact hsx))]
      · rw [hbs]; by_cases e : x = b
        · rw [if_pos e]; omega
        · rw [if_neg e]; exact hp
      · rw [hbs] at hp ⊢
        by_cases e : x = b
        · rw [if_pos e]; exact Or.inl rfl
        · rw [if_neg e]; exact Or.inr ⟨x, hx, hsx, rfl⟩
      · rw [hbs]; by_cases e : x = b
        · rw [if_pos e, Int.toNat_natCast, e]; exact Or.inr hE
        · rw [if_neg e]; exact Or.inl rfl
      · rw [hbs] at hp he
        rw [hbs] at he
        by_cases ex : x = b
        · by_cases ey : y = b
          · omega
          · rw [if_pos ex, if_neg ey] at he
            exact absurd he.symm (ha y hy hsy)
        · rw [if_neg ex] at he hp
          by_cases ey : y = b
          · rw [if_pos ey] at he
            exact absurd he (ha x hx hsx)
          · rw [if_neg ey] at he
            exact hinj x y hx hy hp he
      · refine ⟨y, hy, hsy, ?_⟩
        rw [hbs, if_neg (fun e => by rw [e] at hp; omega)]
      · rw [cnt_set bf b (a : Int) (by omega) (by omega), if_pos hneg]
    · have hss := fun x => se_set sn b x (by omega)
      have hv : (((bt bf b).toNat : Nat) : Int) = bt bf b := Int.toNat_of_nonneg h0
      rcases h2 with ⟨c4, e⟩ | ⟨c4, h2⟩
      · obtain ⟨q, bf1, sn1⟩ := r1
        simp only at c4 e
        subst c4
        simp only [Prod.mk.injEq, true_and] at e
        obtain ⟨rfl, rfl⟩ := e
        have F := search_finds l turn k (bt bf b).toNat bf (sn.set b true) 0 bf1 sn' hb (by rw [List.length_set]; exact hs) hlt hinj (fun x hx hsx e => by
          rw [hv] at e
          have : x = b := hinj x b hx c (by omega) e
          exact hsx ((hss x).2 (Or.inl this))) h1
        have hl1 := F.len
        have hbs := fun x => bt_set bf1 b x (a : Int) (by omega)
        have hb1 : bt bf1 b = bt bf b := F.old b c ((hss b).2 (Or.inl rfl))
        have hav : (a : Int) ≠ bt bf b := fun e => ha b c hns e.symm
        have nin : ∀ x, ¬ se sn x → x ≠ b → ¬ se (sn.set b true) x := fun x h1 h2 h3 => by
          rcases (hss x).1 h3 with h | h
          · exact h2 h
          · exact h1 h
        have nout : ∀ x, ¬ se (sn.set b true) x → ¬ se sn x ∧ x ≠ b := fun x h => ⟨fun h2 => h ((hss x).2 (Or.inr h2)), fun h2 => h ((hss x).2 (Or.inl h2))⟩
        refine ⟨by rw [List.length_set]; exact F.len, fun x hx hsx => ?_, fun x hx hp => ?_, fun x hx hsx hp => ?_, fun x hx hp => ?_, fun x y hx hy hsx hsy hp he => ?_, ⟨b, c, hns, by rw [hbs, if_pos rfl]⟩, fun y hy hsy hp => ?_, ?_⟩
        · rw [hbs, if_neg (fun e => hns (by rw [← e]; exact hsx))]
          exact F.old x hx ((hss x).2 (Or.inr hsx))
        · rw [hbs]; by_cases e : x = b
          · rw [if_pos e]; omega
          · rw [if_neg e]; exact F.pos x hx hp
        · rw [hbs] at hp ⊢
          by_cases e : x = b
          · rw [if_pos e]; exact Or.inl rfl
          · rw [if_neg e] at hp ⊢
            rcases F.src x hx (nin x hsx e) hp with h | ⟨y, y1, y2, y3⟩
            · exact Or.inr ⟨b, c, hns, by rw [h, hv]⟩
            · exact Or.inr ⟨y, y1, (nout y y2).1, y3⟩
        · rw [hbs] at hp ⊢
          by_cases e : x = b
          · rw [if_pos e, Int.toNat_natCast, e]; exact Or.inr hE
          · rw [if_neg e] at hp ⊢; exact F.edge x hx hp
        · -- entries of the unseen places are different ones
          have key : ∀ x, x < l.length → ¬ se sn x → x ≠ b → 0 ≤ bt bf1 x → bt bf1 x ≠ (a : Int) := fun x hx hsx hxb hp e => by
            rcases F.src x hx (nin x hsx hxb) hp with h | ⟨y, y1, y2, y3⟩
            · rw [e, hv] at h; exact hav h
            · exact ha y y1 (nout y y2).1 (by rw [y3, e])
          rw [hbs] at hp he
          rw [hbs] at he
          by_cases ex : x = b
          · by_cases ey : y = b
            · omega
            · rw [if_pos ex, if_neg ey] at he
              exact absurd he.symm (key y hy hsy ey (by omega))
          · rw [if_neg ex] at he hp
            by_cases ey : y = b
            · rw [if_pos ey] at he
              exact absurd he (key x hx hsx ex hp)
            · rw [if_neg ey] at he
              exact F.inj x y hx hy (nin x hsx ex) (nin y hsy ey) hp he
        · by_cases e : y = b
          · obtain ⟨x, x1, x2, x3⟩ := F.hasA
            refine ⟨x, x1, (nout x x2).1, ?_⟩
            rw [hbs, if_neg (nout x x2).2, x3, hv, e]
          · obtain ⟨x, x1, x2, x3⟩ := F.kept y hy (nin y hsy e) hp
            refine ⟨x, x1, (nout x x2).1, ?_⟩
            rw [hbs, if_neg (nout x x2).2, x3]
        · rw [cnt_set bf1 b (a : Int) (by omega) (by omega), if_neg (by omega), F.cnt]
      · obtain ⟨q, bf1, sn1⟩ := r1
        simp only at c4 h2
        subst c4
        obtain ⟨f1, f2, f3, f4, f5⟩ := search_fails l turn k (bt bf b).toNat bf (sn.set b true) 0 bf1 sn1 hb (by rw [List.length_set]; exact hs) hlt h1
        subst f1
        have up : ∀ x, se sn x → se sn1 x := fun x hx => f3 x ((hss x).2 (Or.inr hx))
        have F := search_finds l turn k a bf1 sn1 (b + 1) bf' sn' hb f2 hlt hinj (fun x hx hsx => ha x hx (fun h => hsx (up x h))) h2
        have keep : ∀ x, x < l.length → se sn1 x → bt bf' x = bt bf1 x := F.old
        refine ⟨F.len, fun x hx hsx => F.old x hx (up x hsx), F.pos, fun x hx hsx hp => ?_, F.edge, fun x y hx hy hsx hsy hp he => ?_, ?_, fun y hy hsy hp => ?_, F.cnt⟩
        · by_cases e : se sn1 x
          · exact Or.inr ⟨x, hx, hsx, (keep x hx e).symm⟩
          · rcases F.src x hx e hp with h | ⟨y, y1, y2, y3⟩
            · exact Or.inl h
            · exact Or.inr ⟨y, y1, fun h => y2 (up y h), y3⟩
        · by_cases ex : se sn1 x
          · by_cases ey : se sn1 y
            · rw [keep x hx ex] at hp he
              rw [keep y hy ey] at he
              exact hinj x y hx hy hp he
            · rw [keep x hx ex] at hp he
              rcases F.src y hy ey (by omega) with h | ⟨z, z1, z2, z3⟩
              · exact absurd (he.trans h) (ha x hx hsx)
              · have := hinj x z hx z1 hp (by rw [he, z3])
                exact absurd (by rw [← this]; exact ex) z2
          · by_cases ey : se sn1 y
            · rw [keep y hy ey] at he
              rcases F.src x hx ex hp with h | ⟨z, z1, z2, z3⟩
              · exact absurd (he.symm.trans h) (ha y hy hsy)
              · have := hinj z y z1 hy (by omega) (by rw [z3, he])
                exact absurd (by rw [this]; exact ey) z2
            · exact F.inj x y hx hy ex ey hp he
        · obtain ⟨x, x1, x2, x3⟩ := F.hasA
          exact ⟨x, x1, fun h => x2 (up x h), x3⟩
        · by_cases e : se sn1 y
          · exact ⟨y, hy, hsy, keep y hy e⟩
          · obtain ⟨x, x1, x2, x3⟩ := F.kept y hy e hp
            exact ⟨x, x1, fun h => x2 (up x h), x3⟩
end Go.Proofs.Ytoalolbifakpiaa.Pure

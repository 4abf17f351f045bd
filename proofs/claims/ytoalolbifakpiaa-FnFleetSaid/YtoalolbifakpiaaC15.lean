/- Fleet: the search for a task to come behind another ends, and program and reference tell the same. -/
import Derived.Test.YtoalolbifakpiaaT1
import Derived.Test.YtoalolbifakpiaaT3
namespace Go.Proofs.Ytoalolbifakpiaa.Pure
open Go.RowKit Go.Proofs.Ytoalolbifakpiaa.P Go.Proofs.YtoalolbifakpiaaW.PrintWords Go.Proofs.YtoalolbifakpiaaW.PrintLast

theorem f3_foll {a : S25} (b : S25) {turn : Int} (ha : taskB a = true) (ht : 0 ≤ turn ∧ turn ≤ 120) : impl_Fleet.l3 turn a b = follB a b turn := by
  have := (taskB_bounds ha).2.2.1
  unfold impl_Fleet.l3 follB
  rw [w64 (by omega) (by omega)]
/-- How many were not asked. -/
def left (sn : List Bool) : Nat := sn.countP (fun x => !x)
theorem left_set : ∀ (sn : List Bool) (b : Nat), b < sn.length → sn.getD b false = false → left (sn.set b true) + 1 = left sn
  | [], b, h, _ => absurd h (by simp)
  | x :: sn, 0, _, h => by
    have e : x = false := h
    subst e
    simp [left]
  | x :: sn, b + 1, h, hs => by
    have ih := left_set sn b (by simpa using h) (by simpa using hs)
    simp only [left, List.set_cons_succ, List.countP_cons] at ih ⊢
    omega
structure Vd (n : Nat) (bf : List Int) (sn : List Bool) : Prop where
  bl : bf.length = n
  sl : sn.length = n
  lt : ∀ j, j < n → bf.getD j 0 < n
theorem Vd.sset {n : Nat} {bf : List Int} {sn : List Bool} (h : Vd n bf sn) (b : Nat) (x : Bool) : Vd n bf (sn.set b x) := ⟨h.bl, by rw [List.length_set]; exact h.sl, h.lt⟩
theorem Vd.bset {n : Nat} {bf : List Int} {sn : List Bool} (h : Vd n bf sn) (b : Nat) (x : Int) (hx : x < n) : Vd n (bf.set b x) sn := by
  refine ⟨by rw [List.length_set]; exact h.bl, h.sl, fun j hj => ?_⟩
  have := h.bl
  rw [List.getD_eq_getElem?_getD, List.getElem?_set]
  by_cases e : b = j
  · rw [if_pos e, if_pos (by omega)]; exact hx
  · rw [if_neg e, ← List.getD_eq_getElem?_getD]; exact h.lt j hj
theorem match_both (l : List S25) (turn : Int) (hl : tasksB l = true) (htu : 0 ≤ turn ∧ turn ≤ 120) : ∀ (C D a : Nat) (bf : List Int) (sn : List Bool) (b : Nat), left sn ≤ C → l.length ≤ b + D → b ≤ l.length → a < l.length → Vd l.length bf sn →
    ∃ r, Ev (fun k => impl_Fleet.l0 l turn k (a : Int) bf sn (b : Int)) r ∧ Ev (fun k => spec_l16Match.l0 k l turn (a : Int) bf sn (b : Int)) r ∧ Vd l.length r.2.1 r.2.2 ∧ left r.2.2 ≤ left sn := by
  obtain ⟨h40, hta⟩ := tasksB_parts hl
  have htask : ∀ x : Int, 0 ≤ x → x < l.length → taskB (rd_T25 l x) = true := fun x hx0 hx1 => hta _ (by unfold rd_T25; exact getD_mem _ _ _ (by omega))
  intro C
  induction C with
  | zero =>
    intro D
    induction D with
    | zero =>
      intro a bf sn b hC hD hb ha hV
      have e : b = l.length := by omega
      subst e
      exact ⟨(false, bf, sn), ev_some (fun k => by simp [impl_Fleet.l0]), ev_some (fun k => by simp [spec_l16Match.l0]), hV, Nat.le_refl _⟩
    | succ D ihD =>
      intro a bf sn b hC hD hb ha hV
      by_cases c : b < l.length
      · have hsl := hV.sl
        have hs : rdOf false sn (b : Int) = true := by
          cases hh : rdOf false sn (b : Int) with
          | true => rfl
          | false =>
            have := left_set sn b (by omega) (by unfold rdOf at hh; rw [Int.toNat_natCast] at hh; exact hh)
            omega
        obtain ⟨r, r1, r2, r3, r4⟩ := ihD a bf sn (b + 1) hC (by omega) (by omega) ha hV
        refine ⟨r, ?_, ?_, r3, r4⟩
        · refine ev_at r1 (fun k => ?_)
          rw [impl_Fleet.l0, if_pos (by omega), if_pos hs]
          rfl
        · have hj : Ev (fun k => spec_l16Match.j1 k l turn (a : Int) bf sn (b : Int) true) r := ev_at r2 (fun k => by simp [spec_l16Match.j1, w64s c (show l.length ≤ 1000000000 by omega)])
          refine ev_at hj (fun k => ?_)
          simp only [spec_l16Match.l0, show (b : Int) < (l.length : Int) by omega, show (0 : Int) ≤ (b : Int) by omega, hsl, hs, if_true]
      · have e : b = l.length := by omega
        subst e
        exact ⟨(false, bf, sn), ev_some (fun k => by simp [impl_Fleet.l0]), ev_some (fun k => by simp [spec_l16Match.l0]), hV, Nat.le_refl _⟩
  | succ C ihC =>
    intro D
    induction D with
    | zero =>
      intro a bf sn b hC hD hb ha hV
      have e : b = l.length := by omega
      subst e
      exact ⟨(false, bf, sn), ev_some (fun k => by simp [impl_Fleet.l0]), ev_some (fun k => by simp [spec_l16Match.l0]), hV, Nat.le_refl _⟩
    | succ D ihD =>
      intro a bf sn b hC hD hb ha hV
      by_cases c : b < l.length
      · have hsl := hV.sl
        have hbl := hV.bl
        cases hs : rdOf false sn (b : Int) with
        | true =>
          obtain ⟨r, r1, r2, r3, r4⟩ := ihD a bf sn (b + 1) hC (by omega) (by omega) ha hV
          refine ⟨r, ?_, ?_, r3, r4⟩
          · refine ev_at r1 (fun k => ?_)
            rw [impl_Fleet.l0, if_pos (by omega), if_pos hs]
            rfl
          · have hj : Ev (fun k => spec_l16Match.j1 k l turn (a : Int) bf sn (b : Int) true) r := ev_at r2 (fun k => by simp [spec_l16Match.j1, w64s c (show l.length ≤ 1000000000 by omega)])
            refine ev_at hj (fun k => ?_)
            simp only [spec_l16Match.l0, show (b : Int) < (l.length : Int) by omega, show (0 : Int) ≤ (b : Int) by omega, hsl, hs, if_true]
        | false =>
          have hsp := spec_follows (rd_T25 l (a : Int)) (rd_T25 l (b : Int)) turn
          have hfb : followsB (rd_T25 l (a : Int)) (rd_T25 l (b : Int)) turn = follB (rd_T25 l (a : Int)) (rd_T25 l (b : Int)) turn := by
            unfold followsB
            rw [htask _ (by omega) (by omega), htask _ (by omega) (by omega), inB_iff.2 htu]; rfl
          rw [hfb] at hsp
          have hf3 := f3_foll (rd_T25 l (b : Int)) (htask (a : Int) (by omega) (by omega)) htu
          have spec_go : ∀ (fl : Bool) (r : Bool × List Int × List Bool), follB (rd_T25 l (a : Int)) (rd_T25 l (b : Int)) turn = fl → Ev (fun k => spec_l16Match.j1 k l turn (a : Int) bf sn (b : Int) (!fl)) r → Ev (fun k => spec_l16Match.l0 k l turn (a : Int) bf sn (b : Int)) r := fun fl r hfl h => by
            refine ev_at h (fun k => ?_)
            rw [hfl] at hsp
            simp only [spec_l16Match.l0, show (b : Int) < (l.length : Int) by omega, show (0 : Int) ≤ (b : Int) by omega, hsl, hs, Bool.false_eq_true, if_true, if_false, show (0 : Int) ≤ (a : Int) by omega, show (a : Int) < (l.length : Int) by omega, hsp, Option.bind_some]
          cases hfl : follB (rd_T25 l (a : Int)) (rd_T25 l (b : Int)) turn with
          | false =>
            obtain ⟨r, r1, r2, r3, r4⟩ := ihD a bf sn (b + 1) hC (by omega) (by omega) ha hV
            refine ⟨r, ?_, spec_go false r hfl ?_, r3, r4⟩
            · refine ev_at r1 (fun k => ?_)
              rw [impl_Fleet.l0, if_pos (by omega), if_neg (by rw [hs]; simp), if_pos (by rw [hf3, hfl])]
              rfl
            · exact ev_at r2 (fun k => by simp [spec_l16Match.j1, w64s c (show l.length ≤ 1000000000 by omega)])
          | true =>
            have hls := left_set sn b (by omega) (by unfold rdOf at hs; rw [Int.toNat_natCast] at hs; exact hs)
            have hV2 := hV.sset b true
            have hlt := hV.lt b c
            have hrd : rd bf (b : Int) = bf.getD b 0 := by unfold rd; rw [Int.toNat_natCast]
            by_cases cv : rd bf (b : Int) < 0
            · refine ⟨(true, bf.set b (a : Int), sn.set b true), ?_, spec_go true _ hfl ?_, hV2.bset b _ (by omega), by show left (sn.set b true) ≤ left sn; omega⟩
              · refine ev_some (fun k => ?_)
                rw [impl_Fleet.l0, if_pos (by omega), if_neg (by rw [hs]; simp), if_neg (by rw [hf3, hfl]; simp), if_pos cv, Int.toNat_natCast]
              · refine ev_some (fun k => ?_)
                simp only [spec_l16Match.j1, Bool.not_true, Bool.false_eq_true, if_false, show (0 : Int) ≤ (b : Int) by omega, if_true, hsl, hbl, show (b : Int) < (l.length : Int) by omega, Option.bind_some, cv, Int.toNat_natCast]
            · obtain ⟨vn, hvn⟩ : ∃ vn : Nat, rd bf (b : Int) = (vn : Int) := ⟨(rd bf (b : Int)).toNat, by omega⟩
              obtain ⟨q, q1, q2, q3, q4⟩ := ihC l.length vn bf (sn.set b true) 0 (by omega) (by omega) (by omega) (by omega) hV2
              obtain ⟨g, bf2, sn2⟩ := q
              simp only at q3 q4
              have q5 : Ev (fun k => spec_l16Match.f k l turn (vn : Int) bf (sn.set b true)) (g, bf2, sn2) := ev_at q2 (fun k => by rw [spec_l16Match.f]; rfl)
              have hi : ∀ k, impl_Fleet.l0 l turn (k + 1) (a : Int) bf sn (b : Int) = (impl_Fleet.l0 l turn k (vn : Int) bf (sn.set b true) 0).bind fun r => if r.1 = true then some (true, r.2.1.set b (a : Int), r.2.2) else impl_Fleet.l0 l turn k (a : Int) r.2.1 r.2.2 ((b : Int) + 1) := fun k => by
                rw [impl_Fleet.l0, if_pos (by omega), if_neg (by rw [hs]; simp), if_neg (by rw [hf3, hfl]; simp), if_neg cv, hvn, Int.toNat_natCast]
              have hj : ∀ k, spec_l16Match.j1 (k + 1) l turn (a : Int) bf sn (b : Int) false = (spec_l16Match.f k l turn (vn : Int) bf (sn.set b true)).bind fun r => if r.1 = true then some (true, r.2.1.set b (a : Int), r.2.2) else spec_l16Match.l0 k l turn (a : Int) r.2.1 r.2.2 ((b + 1 : Nat) : Int) := fun k => by
                simp only [spec_l16Match.j1, Bool.false_eq_true, if_false, show (0 : Int) ≤ (b : Int) by omega, if_true, hsl, hbl, show (b : Int) < (l.length : Int) by omega, Option.bind_some, hvn, show ¬ ((vn : Int) < 0) by omega, Int.toNat_natCast, w64s c (show l.length ≤ 1000000000 by omega)]
              cases g with
              | true =>
                refine ⟨(true, bf2.set b (a : Int), sn2), ?_, spec_go true _ hfl ?_, q3.bset b _ (by omega), by show left sn2 ≤ left sn; omega⟩
                · refine ev_at (Ev.bind q1 (?_ : Ev _ (true, bf2.set b (a : Int), sn2))) hi
                  simpa using Ev.now _
                · refine ev_at (Ev.bind q5 (?_ : Ev _ (true, bf2.set b (a : Int), sn2))) hj
                  simpa using Ev.now _
              | false =>
                obtain ⟨r, r1, r2, r3, r4⟩ := ihC D a bf2 sn2 (b + 1) (by omega) (by omega) (by omega) ha q3
                refine ⟨r, ?_, spec_go true _ hfl ?_, r3, by omega⟩
                · refine ev_at (Ev.bind q1 (?_ : Ev _ r)) hi
                  simpa using r1
                · refine ev_at (Ev.bind q5 (?_ : Ev _ r)) hj
                  simpa using r2
      · have e : b = l.length := by omega
        subst e
        exact ⟨(false, bf, sn), ev_some (fun k => by simp [impl_Fleet.l0]), ev_some (fun k => by simp [spec_l16Match.l0]), hV, Nat.le_refl _⟩

theorem fleet_loop (l : List S25) (turn : Int) (hl : tasksB l = true) (htu : 0 ≤ turn ∧ turn ≤ 120) : ∀ a, a ≤ l.length → ∀ (bf : List Int) (u : Int), bf.length = l.length → (∀ j, j < l.length → bf.getD j 0 < l.length) → (l.length : Int) - a ≤ u → u ≤ l.length →
    ∃ v, Ev (fun k => impl_Fleet.l1 l turn k ((List.range l.length).drop a) bf u) v ∧ Ev (fun k => spec_Fleet.l1 k l turn bf u (a : Int)) v := by
  obtain ⟨h40, hta⟩ := tasksB_parts hl
  refine down l.length (fun bf u hb hlt h1 h2 => ?_) (fun a ha ih bf u hb hlt h1 h2 => ?_)
  · refine ⟨u, ?_, ev_some (fun k => by simp [spec_Fleet.l1])⟩
    rw [List.drop_of_length_le (by simp)]
    simpa [impl_Fleet.l1] using Ev.now u
  · have hd : (List.range l.length).drop a = a :: (List.range l.length).drop (a + 1) := by
      rw [List.drop_eq_getElem_cons (by simpa using ha), List.getElem_range]
    obtain ⟨r, r1, r2, r3, _⟩ := match_both l turn hl htu l.length l.length a bf (List.replicate l.length false) 0 (by unfold left; exact Nat.le_trans List.countP_le_length (by simp)) (by omega) (by omega) ha ⟨hb, by simp, hlt⟩
    obtain ⟨g, bf2, sn2⟩ := r
    have r2' : Ev (fun k => spec_l16Match.f k l turn (a : Int) bf (List.replicate l.length false)) (g, bf2, sn2) := ev_at r2 (fun k => by rw [spec_l16Match.f]; rfl)
    have hs : ∀ k, spec_Fleet.l1 (k + 1) l turn bf u (a : Int) = (spec_l16Match.f k l turn (a : Int) bf (List.replicate l.length false)).bind fun b => if b.1 = true then spec_Fleet.l1 k l turn b.2.1 (wrap64 (u - 1)) ((a + 1 : Nat) : Int) else spec_Fleet.l1 k l turn b.2.1 u ((a + 1 : Nat) : Int) := fun k => by
      simp only [spec_Fleet.l1, show (a : Int) < (l.length : Int) by omega, show (0 : Int) ≤ (l.length : Int) by omega, if_true, Int.toNat_natCast, show l.length ≤ 281474976710656 by omega, w64s ha (show l.length ≤ 1000000000 by omega)]
    rw [hd]
    cases g with
    | true =>
      obtain ⟨v, v1, v2⟩ := ih bf2 (u - 1) r3.bl r3.lt (by omega) (by omega)
      refine ⟨v, ?_, ?_⟩
      · refine Ev.bind r1 ?_
        simpa using v1
      · refine ev_at (Ev.bind r2' (?_ : Ev _ v)) hs
        simpa [w64 (x := u - 1) (by omega) (by omega)] using v2
    | false =>
      obtain ⟨v, v1, v2⟩ := ih bf2 u r3.bl r3.lt (by omega) (by omega)
      refine ⟨v, ?_, ?_⟩
      · refine Ev.bind r1 ?_
        simpa using v1
      · refine ev_at (Ev.bind r2' (?_ : Ev _ v)) hs
        simpa using v2
theorem turn_okF (turn : Int) : impl_turnOk.f turn = some (inB turn 0 120) := by unfold impl_turnOk.f; rw [between]; rfl
theorem fleet_both (l : List S25) (turn : Int) (h : l.length ≤ 1048576) : ∃ v, Ev (fun k => spec_Fleet.f k l turn) v ∧ Ev (fun k => impl_Fleet.f k l turn) v := by
  cases hb : (tasksB l && inB turn 0 120) with
  | false =>
    refine ⟨-1, ?_, ?_⟩
    · unfold spec_Fleet.f
      refine Ev.bind (spec_tasks l h) ?_
      cases hl : tasksB l with
      | false =>
        simp only [Bool.false_eq_true, if_false]
        exact ev_some (fun k => by simp [spec_Fleet.j0])
      | true =>
        have htb : inB turn 0 120 = false := by rw [hl] at hb; simpa using hb
        simp only [if_true, spec_l16Turn.f, l01In, htb, Option.bind_some, Bool.not_false]
        exact ev_some (fun k => by simp [spec_Fleet.j0])
    · unfold impl_Fleet.f
      refine Ev.bind (impl_tasks l h) ?_
      cases hl : tasksB l with
      | false => simpa using Ev.now (-1 : Int)
      | true =>
        have htb : inB turn 0 120 = false := by rw [hl] at hb; simpa using hb
        simpa [turn_okF, htb] using Ev.now (-1 : Int)
  | true =>
    rw [Bool.and_eq_true] at hb
    obtain ⟨hl, htb⟩ := hb
    obtain ⟨h40, hta⟩ := tasksB_parts hl
    obtain ⟨v, v1, v2⟩ := fleet_loop l turn hl (inB_iff.1 htb) 0 (by omega) (List.replicate l.length (-1)) (l.length : Int) (by simp) (fun j hj => by
      rw [List.getD_eq_getElem?_getD, List.getElem?_replicate, if_pos hj]
      show (-1 : Int) < _
      omega) (by omega) (by omega)
    refine ⟨v, ?_, ?_⟩
    · unfold spec_Fleet.f
      have ht := spec_tasks l h
      rw [hl] at ht
      refine Ev.bind ht ?_
      simp only [if_true, spec_l16Turn.f, l01In, htb, Option.bind_some, Bool.not_true]
      have mk : ∀ i, i ≤ l.length → Ev (fun k => spec_Fleet.l0 k l turn (List.replicate i (-1)) (i : Int)) v := by
        refine down l.length ?_ (fun i hi ih => ?_)
        · exact ev_at v2 (fun k => by simp [spec_Fleet.l0])
        · refine ev_at ih (fun k => ?_)
          have e : List.replicate i (-1 : Int) ++ [-1] = List.replicate (i + 1) (-1) := by rw [List.replicate_succ']
          simp [spec_Fleet.l0, hi, show i < 17592186044416 by omega, w64s hi (show l.length ≤ 1000000000 by omega), e]
      exact ev_at (mk 0 (by omega)) (fun k => by simp [spec_Fleet.j0])
    · unfold impl_Fleet.f
      have ht := impl_tasks l h
      rw [hl] at ht
      refine Ev.bind ht ?_
      simp only [if_true, turn_okF, htb, Option.bind_some]
      simpa using v1
end Go.Proofs.Ytoalolbifakpiaa.Pure

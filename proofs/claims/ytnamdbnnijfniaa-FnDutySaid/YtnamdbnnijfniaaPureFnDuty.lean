/- The law FnDuty, over lists and numbers alone: a drawn duty stays fine with wider rules, its stretch is never beyond what is driven, its wage grows with the rate. -/
import Derived.Test.YtnamdbnnijfniaaR4
import Derived.Test.YtnamdbnnijfniaaF
namespace Go.Proofs.Ytnamdbnnijfniaa.Pure
open Go.RowKit Go.Proofs.Ytnamdbnnijfniaa.P Go.Proofs.YtnamdbnnijfniaaW.PrintWords Go.Proofs.YtnamdbnnijfniaaW.PrintLast

/-! The draw: tasks that come one behind the other. -/
def ints (m : Nat) : List Int := (List.range m).map fun (i : Nat) => (i : Int)
theorem ints_at {m i : Nat} (h : i < m) : (ints m).getD i 0 = (i : Int) := getD_map_range 0 m _ i h
theorem ints_len (m : Nat) : (ints m).length = m := by simp [ints]
theorem ints_snoc (m : Nat) : ints m ++ [(m : Int)] = ints (m + 1) := by simp [ints, List.range_succ]
def uk (n : List S52) (k : Nat) : S52 := n.getD k z52
theorem uk_l {n : List S52} {x : S52} {k : Nat} (h : k < n.length) : uk (n ++ [x]) k = uk n k := by simp [uk, List.getD_eq_getElem?_getD, List.getElem?_append_left h]
theorem uk_r {n : List S52} {x : S52} {k : Nat} (h : k = n.length) : uk (n ++ [x]) k = x := by subst h; simp [uk, List.getD_eq_getElem?_getD]
structure Lk (n : List S52) (m : Nat) : Prop where
  d : ∀ k, k < m → 5 ≤ (uk n k).f3 - (uk n k).f2 ∧ (uk n k).f3 - (uk n k).f2 ≤ 54
  g : ∀ k, k + 1 < m → (uk n k).f1 = (uk n (k + 1)).f0 ∧ (uk n k).f3 ≤ (uk n (k + 1)).f2 ∧ (uk n (k + 1)).f2 ≤ (uk n k).f3 + 39
theorem Lk.snoc {n : List S52} {m : Nat} {x : S52} (h : Lk n m) (hl : m ≤ n.length) : Lk (n ++ [x]) m := by
  refine ⟨fun k hk => ?_, fun k hk => ?_⟩
  · rw [uk_l (by omega)]; exact h.d k hk
  · rw [uk_l (by omega), uk_l (by omega)]; exact h.g k hk
def Work (b : List Int) (x : List S52 × List Int × Int × Int) : Prop := ∃ m : Nat, x.2.1 = ints m ∧ 1 ≤ m ∧ m ≤ 12 ∧ x.1.length = m + 1 ∧ x.1.all taskB = true ∧ Lk x.1 m ∧ At b x.2.2.1

theorem draw_work_l0 (b : List Int) (hb : b.length ≤ 1048576) : ∀ (e m0 : Nat) (list : List S52) (m node i h : Int), list.all taskB = true → list.length = m0 → 1 ≤ m0 + e → m0 + e ≤ 12 → 0 ≤ m → m ≤ 60 + 100 * (m0 : Int) → 0 ≤ node → node ≤ 2 → At b i →
    Lk list m0 → (1 ≤ m0 → (uk list (m0 - 1)).f1 = node ∧ (uk list (m0 - 1)).f3 ≤ m ∧ m ≤ (uk list (m0 - 1)).f3 + 39) → EvP (fun k => spec_l17DrawWork.l0 k list (ints m0) m node (e : Int) b i h) (Work b)
  | 0, m0, list, m, node, i, h, ha, hl, h1, h2, _, _, _, _, hi, hk, _ => by
    refine evp_of (ev_some (r := (list ++ [(⟨0, 1, 3, 30, 0⟩ : S52)], ints m0, i, h)) (fun k => by simp [spec_l17DrawWork.l0, show list.length < 3518437208883 by omega])) ?_
    refine ⟨m0, rfl, by omega, by omega, by simp [hl], ?_, hk.snoc (by omega), hi⟩
    rw [List.all_append, ha]
    rfl
  | e + 1, m0, list, m, node, i, h, ha, hl, h1, h2, hm0, hm1, hn0, hn1, hi, hk, hlast => by
    have f1 : (ints m0).length < 17592186044416 := by rw [ints_len]; omega
    have f2 : list.length < 3518437208883 := by omega
    have f3 : ((e + 1 : Nat) : Int) > 0 := by omega
    have f4 : wrap64 (((e + 1 : Nat) : Int) - 1) = (e : Int) := by rw [w64 (by omega) (by omega)]; omega
    refine evp_at (f := fun k => (spec_l01Below.f b i h 3).bind fun x => (spec_l01Below.f b x.2.1 x.2.2 50).bind fun y => (spec_l01Below.f b y.2.1 y.2.2 40).bind fun z => spec_l17DrawWork.l0 k (list ++ [(⟨node, x.1, m, wrap64 (wrap64 (m + 5) + y.1), 5⟩ : S52)]) (ints m0 ++ [(list.length : Int)]) (wrap64 (wrap64 (wrap64 (m + 5) + y.1) + z.1)) x.1 (e : Int) b z.2.1 z.2.2) ?_ (fun k => ?_)
    · refine below_then b i h 3 hb hi (by omega) (by omega) (fun v1 i1 h1 p1 q1 hi1 => ?_)
      refine below_then b i1 h1 50 hb hi1 (by omega) (by omega) (fun v2 i2 h2 p2 q2 hi2 => ?_)
      refine below_then b i2 h2 40 hb hi2 (by omega) (by omega) (fun v3 i3 h3 p3 q3 hi3 => ?_)
      simp only
      clear f4
      rw [w64 (x := m + 5) (by omega) (by omega), w64 (x := m + 5 + v2) (by omega) (by omega), w64 (x := m + 5 + v2 + v3) (by omega) (by omega), hl, ints_snoc]
      refine draw_work_l0 b hb e (m0 + 1) _ _ _ i3 h3 ?_ (by simp [hl]) (by omega) (by omega) (by omega) (by omega) (by omega) (by omega) hi3 ⟨fun k hk' => ?_, fun k hk' => ?_⟩ (fun _ => ?_)
      · rw [List.all_append, ha]
        simp only [List.all_cons, List.all_nil, Bool.and_true, Bool.true_and]
        refine (taskB_iff _).2 ?_
        simp only
        omega
      · by_cases e1 : k = m0
        · rw [uk_r (by omega)]
          simp only
          clear hlast
          omega
        · rw [uk_l (by omega)]
          exact hk.d k (by omega)
      · by_cases e1 : k + 1 = m0
        · have := hlast (by omega)
          rw [uk_l (by omega), uk_r (by omega)]
          rw [show m0 - 1 = k by omega] at this
          exact this
        · rw [uk_l (by omega), uk_l (by omega)]
          exact hk.g k (by omega)
      · rw [uk_r (by omega)]
        refine ⟨rfl, ?_, ?_⟩ <;> simp only <;> omega
    · simp only [spec_l17DrawWork.l0, f1, f2, f3, f4, if_true]
theorem l01Size11 (l : List Int) (hl : l.length ≤ 1048576) : ∃ v, spec_l01Size.f l 11 = some v ∧ 2 ≤ v ∧ v ≤ 11 := by
  unfold spec_l01Size.f
  rw [w64 (x := (l.length : Int) / 16) (by omega) (by omega), w64 (by omega) (by omega)]
  split
  · exact ⟨11, rfl, by omega, by omega⟩
  · exact ⟨_, rfl, by omega, by omega⟩
theorem draw_work (b : List Int) (i h : Int) (l : List Int) (hb : b.length ≤ 1048576) (hl : l.length ≤ 1048576) (hi : At b i) : EvP (fun k => spec_l17DrawWork.f k b i h l) (Work b) := by
  obtain ⟨v, hv, v0, v1⟩ := l01Size11 l hl
  unfold spec_l17DrawWork.f
  refine below_then b i h 60 hb hi (by omega) (by omega) (fun v1 i1 h1 p1 q1 hi1 => ?_)
  refine below_then b i1 h1 3 hb hi1 (by omega) (by omega) (fun v2 i2 h2 p2 q2 hi2 => ?_)
  simp only [hv, Option.bind_some]
  rw [w64 (x := 1 + v) (by omega) (by omega)]
  refine below_then b i2 h2 (1 + v) hb hi2 (by omega) (by omega) (fun v3 i3 h3 p3 q3 hi3 => ?_)
  simp only
  rw [w64 (x := 1 + v3) (by omega) (by omega)]
  obtain ⟨e, he⟩ : ∃ e : Nat, 1 + v3 = (e : Int) := ⟨(1 + v3).toNat, by omega⟩
  rw [he]
  exact draw_work_l0 b hb e 0 [] v1 v2 i3 h3 rfl rfl (by omega) (by omega) p1 (by omega) p2 (by omega) hi3 ⟨fun k hk => by omega, fun k hk => by omega⟩ (fun h => by omega)
def Drawn (x : List S52 × List Int × Int × Int × Int × Int) : Prop := (∃ m : Nat, x.2.1 = ints m ∧ 1 ≤ m ∧ m ≤ 12 ∧ x.1.length = m + 1 ∧ tasksB x.1 = true ∧ Lk x.1 m) ∧ ruleB x.2.2.1 x.2.2.2.1 x.2.2.2.2.1 x.2.2.2.2.2 = true
theorem draw_chain (l : List Int) (hl : l.length ≤ 1048576) : EvP (fun k => spec_DrawRightChain.f k l) Drawn := by
  unfold spec_DrawRightChain.f
  refine evp_bind (l01New l hl) (fun x hx => ?_)
  obtain ⟨b, i, h⟩ := x
  obtain ⟨rfl, hi⟩ := hx
  simp only at hi ⊢
  refine evp_bind (draw_work _ i h _ hl hl hi) (fun x hx => ?_)
  obtain ⟨n, ch, i1, h1⟩ := x
  obtain ⟨m, hm, m1, m2, hn, ha, hk, hi1⟩ := hx
  simp only at hm hn ha hk hi1 ⊢
  refine below_then _ i1 h1 400 hl hi1 (by omega) (by omega) (fun v1 i2 h2 p1 q1 hi2 => ?_)
  refine below_then _ i2 h2 200 hl hi2 (by omega) (by omega) (fun v2 i3 h3 p2 q2 hi3 => ?_)
  refine below_then _ i3 h3 40 hl hi3 (by omega) (by omega) (fun v3 i4 h4 p3 q3 hi4 => ?_)
  refine below_then _ i4 h4 150 hl hi4 (by omega) (by omega) (fun v4 i5 h5 p4 q4 hi5 => ?_)
  simp only
  rw [w64 (x := 80 + v1) (by omega) (by omega), w64 (x := 40 + v2) (by omega) (by omega), w64 (x := 5 + v3) (by omega) (by omega), w64 (x := 30 + v4) (by omega) (by omega)]
  refine evp_now _ ⟨⟨m, hm, m1, m2, hn, ?_, hk⟩, ?_⟩
  · simp only [tasksB, ha, Bool.true_and, decide_eq_true_eq]
    omega
  · simp only [ruleB, Bool.and_eq_true, inB_iff]
    omega

/-! What holds of the duty. -/
def sumL : List (Bool × Int) → Int
  | [] => 0
  | p :: t => p.2 + sumL t
theorem implL_ge : ∀ (t : List (Bool × Int)) (s m : Int), m ≤ implL s m t
  | [], _, m => Int.le_refl m
  | (b, d) :: t, s, m => by
    have := implL_ge t ((if b then 0 else s) + d) (max m ((if b then 0 else s) + d))
    unfold implL
    omega
theorem implL_le : ∀ (t : List (Bool × Int)) (s m : Int), 0 ≤ s → s ≤ m → (∀ p, p ∈ t → 0 ≤ p.2) → implL s m t ≤ m + sumL t
  | [], _, m, _, _, _ => by simp [implL, sumL]
  | (b, d) :: t, s, m, hs, hsm, hd => by
    have hd0 : 0 ≤ d := hd (b, d) (by simp)
    unfold implL sumL
    cases b
    · simp only [Bool.false_eq_true, if_false]
      have := implL_le t (s + d) (max m (s + d)) (by omega) (by omega) (fun p hp => hd p (by simp [hp]))
      omega
    · simp only [if_true]
      have := implL_le t (0 + d) (max m (0 + d)) (by omega) (by omega) (fun p hp => hd p (by simp [hp]))
      omega
theorem implL_all : ∀ (t : List (Bool × Int)) (s : Int), 0 ≤ s → (∀ p, p ∈ t → p.1 = false ∧ 0 ≤ p.2) → implL s s t = s + sumL t
  | [], s, _, _ => by simp [implL, sumL]
  | (b, d) :: t, s, hs, hd => by
    have hd0 := hd (b, d) (by simp)
    simp only at hd0
    unfold implL sumL
    rw [hd0.1]
    simp only [Bool.false_eq_true, if_false]
    rw [show max s (s + d) = s + d by omega, implL_all t (s + d) (by omega) (fun p hp => hd p (by simp [hp]))]
    omega
structure Dt (n : List S52) (l : List Int) : Prop where
  duty : dutyB n l = true
  ord : ordB n l = true
  d1 : 1 ≤ drivenV0 n l
  d2 : drivenV0 n l ≤ 1440
  s1 : drivenV0 n l ≤ spreadV n l
  s2 : spreadV n l ≤ 1440
  st : ∀ rest, 1 ≤ stretchedV0 n l rest ∧ stretchedV0 n l rest ≤ drivenV0 n l
  sw : stretchedV0 n l 1440 = drivenV0 n l
theorem stretch_of {n : List S52} {l : List Int} {rest d : Int} {t : List (Bool × Int)} (h : prs n l rest = (true, d) :: t) (hd : 1 ≤ d) (ht : ∀ p, p ∈ t → 0 ≤ p.2) (hs : drivenV0 n l = d + sumL t) :
    (1 ≤ stretchedV0 n l rest ∧ stretchedV0 n l rest ≤ drivenV0 n l) ∧ ((∀ p, p ∈ t → p.1 = false) → stretchedV0 n l rest = drivenV0 n l) := by
  unfold stretchedV0
  rw [h, hs]
  have e : implL 0 0 ((true, d) :: t) = implL d d t := by
    show implL (0 + d) (max 0 (0 + d)) t = _
    rw [Int.zero_add, show max 0 d = d by omega]
  rw [e]
  have h1 := implL_ge t d d
  have h2 := implL_le t d d (by omega) (Int.le_refl _) ht
  exact ⟨⟨by omega, h2⟩, fun hb => implL_all t d (by omega) (fun p hp => ⟨hb p hp, ht p hp⟩)⟩
theorem duty_of {n : List S52} {m : Nat} (hn : n.length = m + 1) (ht : tasksB n = true) (hk : Lk n m) (q : Nat) (h1 : 1 ≤ q) (h3 : q ≤ 3) (hq : q ≤ m) : Dt n (ints q) := by
  have tk_uk : ∀ k : Nat, tk n (k : Int) = uk n k := fun k => by simp [tk, rd_T52, uk]
  have t0 : tk n 0 = uk n 0 := tk_uk 0
  have t1 : tk n 1 = uk n 1 := tk_uk 1
  have t2 : tk n 2 = uk n 2 := tk_uk 2
  have d0 := hk.d 0 (by omega)
  rcases (show q = 1 ∨ q = 2 ∨ q = 3 by omega) with rfl | rfl | rfl
  · have el : ints 1 = [0] := rfl
    have ep : ∀ rest, prs n [0] rest = [(true, len1 n 0)] := fun rest => rfl
    have ed : drivenV0 n [0] = len1 n 0 := by simp [drivenV0]
    have es : spreadV n [0] = (uk n 0).f3 - (uk n 0).f2 := by simp [spreadV, t0]
    have e0 : len1 n 0 = (uk n 0).f3 - (uk n 0).f2 := by simp [len1, t0]
    have key : ∀ rest, _ := fun rest => stretch_of (ep rest) (by omega) (fun p hp => by simp at hp) (by simp [ed, sumL])
    rw [el]
    refine ⟨?_, rfl, by omega, by omega, by omega, by omega, fun rest => (key rest).1, (key 1440).2 (fun p hp => by simp at hp)⟩
    simp [dutyB, ht, placesB, placesFrom, inB]
    omega
  · have d1 := hk.d 1 (by omega)
    have g0 := hk.g 0 (by omega)
    have el : ints 2 = [0, 1] := rfl
    have ep : ∀ rest, prs n [0, 1] rest = [(true, len1 n 0), (decide ((tk n 1).f2 - (tk n 0).f3 ≥ rest), len1 n 1)] := fun rest => rfl
    have ed : drivenV0 n [0, 1] = len1 n 0 + len1 n 1 := by simp [drivenV0]
    have es : spreadV n [0, 1] = (uk n 1).f3 - (uk n 0).f2 := by simp [spreadV, t0, t1]
    have e0 : len1 n 0 = (uk n 0).f3 - (uk n 0).f2 := by simp [len1, t0]
    have e1 : len1 n 1 = (uk n 1).f3 - (uk n 1).f2 := by simp [len1, t1]
    have key : ∀ rest, _ := fun rest => stretch_of (ep rest) (by omega) (fun p hp => by simp at hp; subst hp; simp only; omega) (by simp [ed, sumL])
    rw [el]
    simp only [Nat.zero_add] at g0
    refine ⟨?_, ?_, by omega, by omega, by omega, by omega, fun rest => (key rest).1, (key 1440).2 (fun p hp => by simp at hp; subst hp; simp only [t0, t1, decide_eq_false_iff_not]; omega)⟩
    · simp [dutyB, ht, placesB, placesFrom, inB]
      omega
    · simp [ordB, ordFrom, follows1, t0, t1]
      omega
  · have d1 := hk.d 1 (by omega)
    have d2 := hk.d 2 (by omega)
    have g0 := hk.g 0 (by omega)
    have g1 := hk.g 1 (by omega)
    have el : ints 3 = [0, 1, 2] := rfl
    have ep : ∀ rest, prs n [0, 1, 2] rest = [(true, len1 n 0), (decide ((tk n 1).f2 - (tk n 0).f3 ≥ rest), len1 n 1), (decide ((tk n 2).f2 - (tk n 1).f3 ≥ rest), len1 n 2)] := fun rest => rfl
    have ed : drivenV0 n [0, 1, 2] = len1 n 0 + len1 n 1 + len1 n 2 := by simp [drivenV0]
    have es : spreadV n [0, 1, 2] = (uk n 2).f3 - (uk n 0).f2 := by simp [spreadV, t0, t2]
    have e0 : len1 n 0 = (uk n 0).f3 - (uk n 0).f2 := by simp [len1, t0]
    have e1 : len1 n 1 = (uk n 1).f3 - (uk n 1).f2 := by simp [len1, t1]
    have e2 : len1 n 2 = (uk n 2).f3 - (uk n 2).f2 := by simp [len1, t2]
    have key : ∀ rest, _ := fun rest => stretch_of (ep rest) (by omega) (fun p hp => by simp at hp; rcases hp with hp | hp <;> subst hp <;> simp only <;> omega) (by simp [ed, sumL]; omega)
    rw [el]
    simp only [Nat.zero_add, show 1 + 1 = 2 from rfl] at g0 g1
    refine ⟨?_, ?_, by omega, by omega, by omega, by omega, fun rest => (key rest).1, (key 1440).2 (fun p hp => by simp at hp; rcases hp with hp | hp <;> subst hp <;> simp only [t0, t1, t2, decide_eq_false_iff_not] <;> omega)⟩
    · simp [dutyB, ht, placesB, placesFrom, inB]
      omega
    · simp [ordB, ordFrom, follows1, t0, t1, t2]
      omega

theorem law_duty {n : List S52} {l : List Int} {a b c d : Int} (H : Dt n l) (hr : ruleB a b c d = true) (code : List Int) (hcl : code.length ≤ 1048576) (hw : ∀ x, x ∈ code → (Lit.int .u8 x).wf = true) : Ev (fun k => laws_FnDuty.j0 k code n l a b c d) true := by
  have hp := dutyB_parts H.duty
  have hn : n.length ≤ 1048576 := by omega
  have hl : l.length ≤ 1048576 := by omega
  have hrb := hr
  simp only [ruleB, Bool.and_eq_true, inB_iff] at hrb
  have d1 := H.d1
  have d2 := H.d2
  have s1 := H.s1
  have s2 := H.s2
  have st := H.st c
  have hdr : drivenV n l = drivenV0 n l := by unfold drivenV; rw [H.duty]; rfl
  have hst : stretchedV n l c = stretchedV0 n l c := by unfold stretchedV; rw [H.duty, inB_iff.2 hrb.1.2]; rfl
  have hsw : stretchedV n l 1440 = drivenV0 n l := by unfold stretchedV; rw [H.duty, H.sw]; rfl
  have hwide : codeV n l 1440 1440 1 1440 = 0 := by
    unfold codeV codeV0
    rw [H.duty, H.ord]
    have := H.st 1
    simp only [show ruleB 1440 1440 1 1440 = true from rfl, Bool.and_true, if_true]
    rw [if_neg (by omega), if_neg (by omega), if_neg (by omega)]
  obtain ⟨x, hx⟩ : ∃ x, codeV n l a b c d = x := ⟨_, rfl⟩
  obtain ⟨rate, hrate, r0, r1⟩ := at_byte code hcl hw 3 (by omega) (by omega)
  have wv : ∀ t : Int, 0 ≤ t → t ≤ 1000 → wageV n l a b c d t = if x = 0 then t * (spreadV n l + max (drivenV0 n l - b / 2) 0) else -1 := fun t h0 h1 => by
    unfold wageV
    rw [hx, inB_iff.2 ⟨h0, h1⟩]
    simp
  have j2 : Ev (fun k => laws_FnDuty.j2 k code n l (drivenV0 n l) x false a b c d) true := by
    refine ev_at (f := fun k => (impl_Wage.f k n l a b c d rate).bind fun t434 => if x = 0 then if t434 ≥ wrap64 (rate * drivenV0 n l) then (impl_Wage.f k n l a b c d (wrap64 (rate + 1))).bind fun t435 => if wrap64 (t435 - t434) ≥ drivenV0 n l then (impl_Wage.f k n l a b c d 0).bind fun t436 => some (t436 == 0) else some false else some false else some (t434 == (-1))) ?_ (fun k => by simp [laws_FnDuty.j2, hrate])
    refine Ev.bind (impl_wage_all n l a b c d rate hn hl) ?_
    rw [wv rate r0 (by omega), w64 (x := rate + 1) (by omega) (by omega)]
    by_cases h0 : x = 0
    · simp only [h0, if_true]
      obtain ⟨y, hy⟩ : ∃ y, spreadV n l + max (drivenV0 n l - b / 2) 0 = y := ⟨_, rfl⟩
      rw [hy]
      have hyd : drivenV0 n l ≤ y ∧ y ≤ 2880 := by omega
      have m1 : rate * drivenV0 n l ≤ rate * y := Int.mul_le_mul_of_nonneg_left hyd.1 r0
      have m2 : 0 ≤ rate * drivenV0 n l := Int.mul_nonneg r0 (by omega)
      have m3 : rate * y ≤ 255 * 2880 := Int.mul_le_mul (by omega) hyd.2 (by omega) (by omega)
      have m4 : (rate + 1) * y = rate * y + y := by rw [Int.add_mul, Int.one_mul]
      rw [w64 (x := rate * drivenV0 n l) (by omega) (by omega)]
      simp only [ge_iff_le, m1, if_true]
      refine Ev.bind (impl_wage_all n l a b c d (rate + 1) hn hl) ?_
      rw [wv (rate + 1) (by omega) (by omega)]
      simp only [h0, if_true]
      rw [hy, m4, w64 (x := rate * y + y - rate * y) (by omega) (by omega), show rate * y + y - rate * y = y by omega]
      simp only [hyd.1, if_true]
      refine Ev.bind (impl_wage_all n l a b c d 0 hn hl) ?_
      rw [wv 0 (by omega) (by omega)]
      simp only [h0, if_true, Int.zero_mul]
      exact Ev.now _
    · simp only [h0, if_false]
      exact Ev.now _
  have j1 : Ev (fun k => laws_FnDuty.j1 k code n l (drivenV0 n l) false a b c d) true := by
    refine ev_at (f := fun k => (impl_DutyCode.f k n l a b c d).bind fun t430 => (spec_DutyCode.f k n l a b c d).bind fun t431 => if t430 = t431 then (impl_DutyCode.f k n l 1440 1440 1 1440).bind fun t432 => laws_FnDuty.j2 k code n l (drivenV0 n l) t430 (t432 != 0) a b c d else laws_FnDuty.j2 k code n l (drivenV0 n l) t430 true a b c d) ?_ (fun k => by simp [laws_FnDuty.j1])
    refine Ev.bind (impl_code_all n l a b c d hn hl) ?_
    refine Ev.bind (spec_code_all n l a b c d hn hl) ?_
    simp only [if_true]
    refine Ev.bind (impl_code_all n l 1440 1440 1 1440 hn hl) ?_
    rw [hwide, hx]
    exact j2
  refine ev_at (f := fun k => (impl_Driven.f k n l).bind fun t425 => (impl_Stretched.f k n l c).bind fun t426 => if t425 < 0 then laws_FnDuty.j1 k code n l t425 true a b c d else if t426 < 1 then laws_FnDuty.j1 k code n l t425 true a b c d else if t426 > t425 then laws_FnDuty.j1 k code n l t425 true a b c d else (impl_Stretched.f k n l 1440).bind fun t427 => if t427 = t425 then (spec_Stretched.f k n l c).bind fun t428 => laws_FnDuty.j1 k code n l t425 (t426 != t428) a b c d else laws_FnDuty.j1 k code n l t425 true a b c d) ?_ (fun k => by simp [laws_FnDuty.j0])
  refine Ev.bind (impl_driven_all n l hn hl) ?_
  refine Ev.bind (impl_stretched_all n l c hn hl) ?_
  rw [hdr, hst]
  simp only [show ¬ drivenV0 n l < 0 by omega, show ¬ stretchedV0 n l c < 1 by omega, show ¬ stretchedV0 n l c > drivenV0 n l by omega, if_false]
  refine Ev.bind (impl_stretched_all n l 1440 hn hl) ?_
  rw [hsw]
  simp only [if_true]
  refine Ev.bind (spec_stretched_all n l c hn hl) ?_
  rw [hst, bne_self_eq_false]
  exact j1

theorem FnDuty : laws_FnDuty.Pure := by
  intro code hl0 _ hw
  refine Ev.rounds ?_
  unfold laws_FnDuty.f
  by_cases hbig : (code.length : Int) > 1048576
  · simp only [big_true hbig, Option.bind_some, if_true]
    exact Ev.now true
  have hl : code.length ≤ 1048576 := by omega
  simp only [big_false hbig, Option.bind_some, Bool.false_eq_true, if_false]
  refine evp_true (evp_bind (draw_chain code hl) (fun x hx => ?_))
  obtain ⟨n, l, a, b, c, d⟩ := x
  obtain ⟨⟨m, hm, m1, m2, hn, ht, hk⟩, hr⟩ := hx
  simp only at hm hn ht hk hr ⊢
  subst hm
  refine evp_of (r := true) ?_ rfl
  rw [ints_len]
  by_cases h3 : (m : Int) > 3
  · simp only [h3, if_true, show (3 : Int) ≤ m by omega]
    have e : (ints m).take (3 : Int).toNat = ints 3 := by
      unfold ints
      rw [← List.map_take, List.take_range, show min (3 : Int).toNat m = 3 by omega]
    rw [e]
    exact law_duty (duty_of hn ht hk 3 (by omega) (by omega) (by omega)) hr code hl hw
  · simp only [h3, if_false]
    exact law_duty (duty_of hn ht hk m m1 (by omega) (Nat.le_refl _)) hr code hl hw
end Go.Proofs.Ytnamdbnnijfniaa.Pure

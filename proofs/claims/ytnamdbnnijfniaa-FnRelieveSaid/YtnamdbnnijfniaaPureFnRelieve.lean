/- The law FnRelieve, over lists and numbers alone: the duties told are fine one by one, and are the whole chain in its order. -/
import Derived.Test.YtnamdbnnijfniaaX4
import Derived.Test.YtnamdbnnijfniaaF0
namespace Go.Proofs.Ytnamdbnnijfniaa.Pure
open Go.RowKit Go.Proofs.Ytnamdbnnijfniaa.P Go.Proofs.YtnamdbnnijfniaaW.PrintWords Go.Proofs.YtnamdbnnijfniaaW.PrintLast

theorem foldl_sum {α : Type} (f : α → Int) : ∀ (l : List α) (s : Int), l.foldl (fun s x => s + f x) s = s + l.foldl (fun s x => s + f x) 0
  | [], s => by simp
  | x :: t, s => by
    rw [List.foldl_cons, List.foldl_cons, foldl_sum f t (s + f x), foldl_sum f t (0 + f x)]
    omega
theorem driven_split (n : List S52) {l : List Int} {i j : Nat} (hij : i ≤ j) : drivenV0 n (l.take j) = drivenV0 n (l.take i) + drivenV0 n (sl l i j) := by
  have e : l.take j = l.take i ++ sl l i j := by
    unfold sl
    have := List.take_append_drop i (l.take j)
    rw [List.take_take, Nat.min_eq_left hij] at this
    exact this.symm
  unfold drivenV0
  rw [e, List.foldl_append, foldl_sum (len1 n) (sl l i j)]
theorem drivenL_b {n : List S52} (ht : ∀ t, t ∈ n → taskB t = true) : ∀ (l : List Int), (∀ x, x ∈ l → 0 ≤ x ∧ x < n.length) → 0 ≤ drivenV0 n l ∧ drivenV0 n l ≤ 100000 * l.length
  | [], _ => by simp [drivenV0]
  | x :: t, h => by
    have h1 := drivenL_b ht t (fun y hy => h y (by simp [hy]))
    have h2 := len1_b ht (h x (by simp))
    unfold drivenV0 at h1 ⊢
    rw [List.foldl_cons, foldl_sum, List.length_cons]
    omega

theorem wlk_end (F : Nat → Nat → Bool) (N : Nat) : ∀ x, wlk F N x N = []
  | 0 => rfl
  | x + 1 => by simp [wlk]
theorem wlk_head (F : Nat → Nat → Bool) {N i : Nat} (hi : i < N) : ∀ {x : Nat}, 1 ≤ x → ∃ t, wlk F N x i = (i : Int) :: t
  | 0, h => by omega
  | x + 1, _ => by simp [wlk, hi]

section
variable {n : List S52} {l : List Int} {a b c d : Int}
theorem Hc.mem (H : Hc n l a b c d) : ∀ x, x ∈ l → 0 ≤ x ∧ x < n.length := placesB_mem H.p
theorem law_l0 (H : Hc n l a b c d) {r : Bool} : ∀ (x i : Nat) (pre : List Int), i ≤ l.length → l.length - i ≤ x → 0 ≤ cst (fnB n l a b c d) l.length i → pre.length ≤ i →
    Ev (fun k => laws_FnRelieve.l1 k n l (pre ++ wlk (fnB n l a b c d) l.length x i) (drivenV0 n l) 0 0 a b c d) r →
    Ev (fun k => laws_FnRelieve.l0 k n l (pre ++ wlk (fnB n l a b c d) l.length x i) (drivenV0 n (l.take i)) pre.length a b c d) r := by
  have done : ∀ (x : Nat) (pre : List Int), Ev (fun k => laws_FnRelieve.l1 k n l (pre ++ wlk (fnB n l a b c d) l.length x l.length) (drivenV0 n l) 0 0 a b c d) r →
      Ev (fun k => laws_FnRelieve.l0 k n l (pre ++ wlk (fnB n l a b c d) l.length x l.length) (drivenV0 n (l.take l.length)) pre.length a b c d) r := by
    intro x pre hr
    rw [wlk_end, List.append_nil] at hr ⊢
    rw [List.take_length]
    exact ev_at hr (fun k => by simp [laws_FnRelieve.l0])
  intro x
  induction x with
  | zero =>
    intro i pre hi hx _ _ hr
    have : i = l.length := by omega
    subst this
    exact done 0 pre hr
  | succ x ihx =>
    intro i pre hi hx h0 hpre hr
    by_cases hlt : i < l.length
    · have hle := H.le
      obtain ⟨h1, h2, h12, h3, h4, h5, h6, h7⟩ := nxt_is hlt h0
      obtain ⟨t, ht⟩ : ∃ t, nxt (fnB n l a b c d) l.length i = t := ⟨_, rfl⟩
      have ih := ihx t (pre ++ [(i : Int)])
      have ew : wlk (fnB n l a b c d) l.length (x + 1) i = (i : Int) :: wlk (fnB n l a b c d) l.length x t := by simp only [wlk, hlt, if_true, ht]
      rw [ht] at h1 h2 h12 h3 h4
      clear h5 h6 h7
      rw [ew] at hr ⊢
      rw [List.append_assoc, List.singleton_append] at ih
      have hwl := wlk_short (F := fnB n l a b c d) (N := l.length) x t
      obtain ⟨W, hW⟩ : ∃ W, wlk (fnB n l a b c d) l.length x t = W := ⟨_, rfl⟩
      have ih2 := ih h2 (by omega) h4 (by simp; omega) hr
      have hhead : t < l.length → ∃ W', W = (t : Int) :: W' := fun h => by
        rw [← hW]
        exact wlk_head _ h (by omega)
      have hnil : ¬ t < l.length → W = [] := fun h => by
        rw [← hW, show t = l.length by omega]
        exact wlk_end _ _ _
      rw [hW] at ih2 hr ⊢
      have hd := sl_duty H.t H.p h1 h2 h12
      have hc : codeV n (sl l i t) a b c d = 0 := by simpa [fnB] using h3
      have hlen : (sl l i t).length ≤ 1048576 := by rw [sl_len h2]; omega
      have hdr : drivenV n (sl l i t) = drivenV0 n (sl l i t) := by unfold drivenV; rw [hd]; rfl
      have hsp := driven_split n (l := l) (show i ≤ t by omega)
      have hb := drivenL_b (tasksB_parts H.t).2 (l.take t) (fun y hy => H.mem y (List.mem_of_mem_take hy))
      have hbl : (l.take t).length ≤ 40 := by simp; omega
      have es : (l.take t).drop i = sl l i t := rfl
      have e1 : (pre ++ (i : Int) :: W).length = pre.length + 1 + W.length := by simp; omega
      have j3 : Ev (fun k => laws_FnRelieve.j3 k n l (pre ++ (i : Int) :: W) (drivenV0 n (l.take i)) pre.length t a b c d) r := by
        refine ev_at (f := fun k => (impl_DutyCode.f k n (sl l i t) a b c d).bind fun u => if u = 0 then (impl_Driven.f k n (sl l i t)).bind fun v => laws_FnRelieve.l0 k n l (pre ++ (i : Int) :: W) (wrap64 (drivenV0 n (l.take i) + v)) (wrap64 ((pre.length : Int) + 1)) a b c d else some false) ?_ (fun k => ?_)
        · refine Ev.bind (impl_code_all n _ a b c d H.nle hlen) ?_
          simp only [hc, if_true]
          refine Ev.bind (impl_driven_all n _ H.nle hlen) ?_
          rw [hdr, ← hsp, w64 (x := drivenV0 n (l.take t)) (by omega) (by omega), w64 (by omega) (by omega)]
          have e2 : ((pre ++ [(i : Int)]).length : Int) = (pre.length : Int) + 1 := by simp
          rw [e2] at ih2
          exact ih2
        · have ei : rd (pre ++ (i : Int) :: W) pre.length = (i : Int) := by simp [rd]
          simp only [laws_FnRelieve.j3, ei, Int.toNat_natCast, es]
          clear hc ih2 hr ih ihx es ei hdr hsp ew
          rw [if_pos (by omega), if_pos (by omega), if_neg (by omega), if_pos (by omega), if_pos (by omega), if_pos (by omega)]
      refine ev_at j3 (fun k => ?_)
      have hp1 : wrap64 ((pre.length : Int) + 1) = ((pre.length + 1 : Nat) : Int) := w64s (show pre.length < pre.length + 1 by clear hc; omega) (by clear hc; omega)
      simp only [laws_FnRelieve.l0, hp1]
      clear hp1 hc ih2 hr ih ihx hdr hsp ew j3
      rw [if_pos (by omega)]
      by_cases htl : t < l.length
      · obtain ⟨W', hW'⟩ := hhead htl
        have e3 : rd (pre ++ (i : Int) :: W) ((pre.length + 1 : Nat) : Int) = (t : Int) := by rw [hW', rdn]; simp [List.getD_eq_getElem?_getD]
        have e4 : W.length = W'.length + 1 := by rw [hW']; rfl
        rw [if_pos (by omega), if_pos (by omega), e3]
      · have e4 : W.length = 0 := by rw [hnil htl]; rfl
        rw [if_neg (by omega), show (l.length : Int) = (t : Int) by omega]
    · have : i = l.length := by omega
      subst this
      exact done _ pre hr

theorem law_l1 (H : Hc n l a b c d) (s : List Int) {r : Bool} (hr : Ev (fun k => if (l.length : Int) ≤ 12 then (impl_DutyCode.f k n l a b c d).bind fun t => some (((s.length : Int) == 1) == (t == 0)) else some (((s.length : Int) == 1) == false)) r) :
    Ev (fun k => laws_FnRelieve.l1 k n l s (drivenV0 n l) 0 0 a b c d) r := by
  have hle := H.le
  have key : ∀ i, i ≤ l.length → Ev (fun k => laws_FnRelieve.l1 k n l s (drivenV0 n l) (drivenV0 n (l.take i)) (i : Int) a b c d) r := by
    refine down l.length ?_ (fun i hi ih => ?_)
    · rw [List.take_length]
      exact ev_at hr (fun k => by simp [laws_FnRelieve.l1])
    · refine ev_at ih (fun k => ?_)
      have hx := H.mem (l.getD i 0) (getD_mem 0 l i hi)
      have hb1 := len1_b (tasksB_parts H.t).2 hx
      have ht' := (taskB_bounds (tk_ok (tasksB_parts H.t).2 hx)).2.2.1
      have hb := drivenL_b (tasksB_parts H.t).2 (l.take i) (fun y hy => H.mem y (List.mem_of_mem_take hy))
      have hbl : (l.take i).length ≤ 40 := by simp; omega
      have es : drivenV0 n (l.take (i + 1)) = drivenV0 n (l.take i) + len1 n (l.getD i 0) := by
        rw [take_getD 0 l i hi]
        unfold drivenV0
        rw [List.foldl_append]
        rfl
      have ew : wrap64 (wrap64 (drivenV0 n (l.take i) + (tk n (l.getD i 0)).f3) - (tk n (l.getD i 0)).f2) = drivenV0 n (l.take (i + 1)) := by
        rw [es]
        unfold len1 at hb1 ⊢
        rw [w64 (x := drivenV0 n (l.take i) + (tk n (l.getD i 0)).f3) (by omega) (by omega), w64 (by omega) (by omega)]
        omega
      have hw := w64s hi (by clear ew; omega)
      unfold tk at ew
      simp only [laws_FnRelieve.l1, rdn, ew, hw]
      clear ew hw
      rw [if_pos (by omega), if_pos (by omega), if_pos hx.1, if_pos hx.2]
  have := key 0 (Nat.zero_le _)
  simpa [drivenV0] using this
end

/-! The draw. -/
def ints (m : Nat) : List Int := (List.range m).map fun (i : Nat) => (i : Int)
theorem ints_at {m i : Nat} (h : i < m) : (ints m).getD i 0 = (i : Int) := getD_map_range 0 m _ i h
theorem ints_len (m : Nat) : (ints m).length = m := by simp [ints]
theorem ints_snoc (m : Nat) : ints m ++ [(m : Int)] = ints (m + 1) := by simp [ints, List.range_succ]
def Work (b : List Int) (x : List S52 × List Int × Int × Int) : Prop := ∃ m : Nat, x.2.1 = ints m ∧ 1 ≤ m ∧ m ≤ 12 ∧ x.1.length = m + 1 ∧ x.1.all taskB = true ∧ At b x.2.2.1

theorem draw_work_l0 (b : List Int) (hb : b.length ≤ 1048576) : ∀ (e m0 : Nat) (list : List S52) (m node i h : Int), list.all taskB = true → list.length = m0 → 1 ≤ m0 + e → m0 + e ≤ 12 → 0 ≤ m → m ≤ 60 + 100 * (m0 : Int) → 0 ≤ node → node ≤ 2 → At b i →
    EvP (fun k => spec_l17DrawWork.l0 k list (ints m0) m node (e : Int) b i h) (Work b)
  | 0, m0, list, m, node, i, h, ha, hl, h1, h2, _, _, _, _, hi => by
    refine evp_of (ev_some (r := (list ++ [(⟨0, 1, 3, 30, 0⟩ : S52)], ints m0, i, h)) (fun k => by simp [spec_l17DrawWork.l0, show list.length < 3518437208883 by omega])) ?_
    refine ⟨m0, rfl, by omega, by omega, by simp [hl], ?_, hi⟩
    rw [List.all_append, ha]
    rfl
  | e + 1, m0, list, m, node, i, h, ha, hl, h1, h2, hm0, hm1, hn0, hn1, hi => by
    have f1 : (ints m0).length < 17592186044416 := by rw [ints_len]; omega
    have f2 : list.length < 3518437208883 := by omega
    have f3 : ((e + 1 : Nat) : Int) > 0 := by omega
    have f4 : wrap64 (((e + 1 : Nat) : Int) - 1) = (e : Int) := by rw [w64 (by omega) (by omega)]; omega
    refine evp_at (f := fun k => (spec_l01Below.f b i h 3).bind fun x => (spec_l01Below.f b x.2.1 x.2.2 50).bind fun y => (spec_l01Below.f b y.2.1 y.2.2 40).bind fun z => spec_l17DrawWork.l0 k (list ++ [(⟨node, x.1, m, wrap64 (wrap64 (m + 5) + y.1), 5⟩ : S52)]) (ints m0 ++ [(list.length : Int)]) (wrap64 (wrap64 (wrap64 (m + 5) + y.1) + z.1)) x.1 (e : Int) b z.2.1 z.2.2) ?_ (fun k => ?_)
    · refine below_then b i h 3 hb hi (by omega) (by omega) (fun v1 i1 h1 p1 q1 hi1 => ?_)
      refine below_then b i1 h1 50 hb hi1 (by omega) (by omega) (fun v2 i2 h2 p2 q2 hi2 => ?_)
      refine below_then b i2 h2 40 hb hi2 (by omega) (by omega) (fun v3 i3 h3 p3 q3 hi3 => ?_)
      simp only
      clear f4
      rw [w64 (x := m + 5) (by omega) (by omega), w64 (x := m + 5 + v2) (by omega) (by omega), w64 (x := m + 5 + v2 + v3) (by omega) (by omega), hl, ints_snoc]
      refine draw_work_l0 b hb e (m0 + 1) _ _ _ i3 h3 ?_ (by simp [hl]) (by omega) (by omega) (by omega) (by omega) (by omega) (by omega) hi3
      rw [List.all_append, ha]
      simp only [List.all_cons, List.all_nil, Bool.and_true, Bool.true_and]
      refine (taskB_iff _).2 ?_
      simp only
      omega
    · simp only [spec_l17DrawWork.l0, f1, f2, f3, f4, if_true]
theorem l01Size11 (l : List Int) (hl : l.length ≤ 1048576) : ∃ v, spec_l01Size.f l 11 = some v ∧ 2 ≤ v ∧ v ≤ 11 := by
  unfold spec_l01Size.f
  rw [w64 (x := (l.length : Int) / 16) (by omega) (by omega), w64 (by omega) (by omega)]
  split
  · exact ⟨11, rfl, by omega, by omega⟩
  · exact ⟨_, rfl, by omega, by omega⟩
theorem draw_work (b : List Int) (i h : Int) (l : List Int) (hb : b.length ≤ 1048576) (hl : l.length ≤ 1048576) (hi : At b i) : EvP (fun k => spec_l17DrawWork.f k b i h l) (Work b) := by
  obtain ⟨v, hv, v0, v1⟩ := l01Size11 l hl
  unfold spec_l17DrawWork.f
  refine below_then b i h 60 hb hi (by omega) (by omega) (fun v1 i1 h1 p1 q1 hi1 => ?_)
  refine below_then b i1 h1 3 hb hi1 (by omega) (by omega) (fun v2 i2 h2 p2 q2 hi2 => ?_)
  simp only [hv, Option.bind_some]
  rw [w64 (x := 1 + v) (by omega) (by omega)]
  refine below_then b i2 h2 (1 + v) hb hi2 (by omega) (by omega) (fun v3 i3 h3 p3 q3 hi3 => ?_)
  simp only
  rw [w64 (x := 1 + v3) (by omega) (by omega)]
  obtain ⟨e, he⟩ : ∃ e : Nat, 1 + v3 = (e : Int) := ⟨(1 + v3).toNat, by omega⟩
  rw [he]
  exact draw_work_l0 b hb e 0 [] v1 v2 i3 h3 rfl rfl (by omega) (by omega) p1 (by omega) p2 (by omega) hi3
def Drawn (x : List S52 × List Int × Int × Int × Int × Int) : Prop := Hc x.1 x.2.1 x.2.2.1 x.2.2.2.1 x.2.2.2.2.1 x.2.2.2.2.2 ∧ 1 ≤ x.2.1.length
theorem draw_chain (l : List Int) (hl : l.length ≤ 1048576) : EvP (fun k => spec_DrawRightChain.f k l) Drawn := by
  unfold spec_DrawRightChain.f
  refine evp_bind (l01New l hl) (fun x hx => ?_)
  obtain ⟨b, i, h⟩ := x
  obtain ⟨rfl, hi⟩ := hx
  simp only at hi ⊢
  refine evp_bind (draw_work _ i h _ hl hl hi) (fun x hx => ?_)
  obtain ⟨n, ch, i1, h1⟩ := x
  obtain ⟨m, hm, m1, m2, hn, ha, hi1⟩ := hx
  simp only at hm hn ha hi1 ⊢
  refine below_then _ i1 h1 400 hl hi1 (by omega) (by omega) (fun v1 i2 h2 p1 q1 hi2 => ?_)
  refine below_then _ i2 h2 200 hl hi2 (by omega) (by omega) (fun v2 i3 h3 p2 q2 hi3 => ?_)
  refine below_then _ i3 h3 40 hl hi3 (by omega) (by omega) (fun v3 i4 h4 p3 q3 hi4 => ?_)
  refine below_then _ i4 h4 150 hl hi4 (by omega) (by omega) (fun v4 i5 h5 p4 q4 hi5 => ?_)
  simp only
  rw [w64 (x := 80 + v1) (by omega) (by omega), w64 (x := 40 + v2) (by omega) (by omega), w64 (x := 5 + v3) (by omega) (by omega), w64 (x := 30 + v4) (by omega) (by omega)]
  refine evp_now _ ⟨⟨?_, ?_, ?_, ?_⟩, ?_⟩
  · simp only [tasksB, ha, Bool.true_and, decide_eq_true_eq]
    omega
  · simp only [hm, hn]
    refine placesB_iff.2 (fun i hi => ?_)
    rw [ints_len] at hi
    rw [ints_at hi]
    refine ⟨by omega, fun j hj => ?_⟩
    rw [ints_at (by omega)]
    omega
  · simp only [ruleB, Bool.and_eq_true, inB_iff]
    omega
  · simp only [hm, ints_len]
    omega
  · simp only [hm, ints_len]
    omega

theorem same_ints (l : List Int) (h : l.length ≤ 1048576) : Ev (fun k => laws_sameInts.f k l l) true := by
  have key := ev_true l.length (fun k i => laws_sameInts.l0 k l l i) (fun k => by simp [laws_sameInts.l0]) (fun k i hi => by simp [laws_sameInts.l0, w64s hi (by omega), hi])
  simpa [laws_sameInts.f] using key

theorem FnRelieve : laws_FnRelieve.Pure := by
  intro l0 hl0 _ hw
  refine Ev.rounds ?_
  unfold laws_FnRelieve.f
  by_cases hbig : (l0.length : Int) > 1048576
  · have : laws_big.f l0 = some true := by simp [laws_big.f]; omega
    simp only [this, Option.bind_some, if_true]
    exact Ev.now true
  have hl : l0.length ≤ 1048576 := by omega
  have : laws_big.f l0 = some false := by simp [laws_big.f]; omega
  simp only [this, Option.bind_some, Bool.false_eq_true, if_false]
  refine evp_true (evp_bind (draw_chain l0 hl) (fun x hx => ?_))
  obtain ⟨n, l, a, b, c, d⟩ := x
  obtain ⟨H, h1⟩ := hx
  simp only at H h1 ⊢
  have hle := H.le
  refine evp_of (r := true) ?_ rfl
  refine Ev.bind (impl_relieve H h1) ?_
  refine Ev.bind (spec_relieve H h1) ?_
  have hlen : (relV n l a b c d).1.length ≤ 1048576 := by
    unfold relV
    split
    · simp
    · have := wlk_short (F := fnB n l a b c d) (N := l.length) l.length 0
      simp only
      omega
  simp only [impl_rule, H.r, Option.bind_some, if_true, bne_self_eq_false, Bool.false_eq_true, if_false]
  refine Ev.bind (same_ints _ hlen) ?_
  have hcode := impl_code_all n l a b c d H.nle (by omega)
  have hsl : sl l 0 l.length = l := by simp [sl]
  have hN : fnB n l a b c d 0 l.length = decide (codeV n l a b c d = 0) := by unfold fnB; rw [hsl]
  unfold relV
  by_cases h0 : cst (fnB n l a b c d) l.length 0 < 0
  · rw [if_pos h0]
    refine ev_at (f := fun k => if (l.length : Int) > 12 then some true else (impl_DutyCode.f k n l a b c d).bind fun t => some (t != 0)) ?_ (fun k => by simp [laws_FnRelieve.j0])
    by_cases h12 : (l.length : Int) > 12
    · simp only [h12, if_true]
      exact Ev.now _
    · simp only [h12, if_false]
      refine Ev.bind hcode ?_
      have : codeV n l a b c d ≠ 0 := by
        intro hc
        have := no_way (by omega) h0 l.length (by omega) (Nat.le_refl _) (by omega) (by rw [hN]; simp [hc])
        rw [cst_end] at this
        omega
      have e : (codeV n l a b c d != 0) = true := by simpa using this
      rw [e]
      exact Ev.now _
  · rw [if_neg h0]
    obtain ⟨t, ht⟩ := wlk_head (fnB n l a b c d) (show 0 < l.length by omega) h1
    have hwl := wlk_len (F := fnB n l a b c d) (N := l.length) l.length 0 (Nat.zero_le _) (by omega) (by omega)
    have hone := one_is (F := fnB n l a b c d) h1 (by omega)
    have key := law_l0 H (r := true) l.length 0 [] (Nat.zero_le _) (by omega) (by omega) (by simp) ?_
    · refine ev_at (f := fun k => laws_FnRelieve.j1 k n l (wlk (fnB n l a b c d) l.length l.length 0) false a b c d) ?_ (fun k => ?_)
      · refine ev_at key (fun k => ?_)
        simp [laws_FnRelieve.j1, drivenV0]
      · simp only [laws_FnRelieve.j0, ht]
        simp [rd]
        intro h
        omega
    · rw [List.nil_append]
      refine law_l1 H _ ?_
      rw [hwl]
      by_cases h12 : (l.length : Int) ≤ 12
      · simp only [h12, if_true]
        refine Ev.bind hcode ?_
        have e : ((cst (fnB n l a b c d) l.length 0 == 1) == (codeV n l a b c d == 0)) = true := by
          rw [hN] at hone
          simp only [decide_eq_true_eq] at hone
          rw [beq_iff_eq, Bool.eq_iff_iff, beq_iff_eq, beq_iff_eq, hone]
          exact ⟨fun h => h.2, fun h => ⟨by omega, h⟩⟩
        rw [e]
        exact Ev.now _
      · simp only [h12, if_false]
        have e : (cst (fnB n l a b c d) l.length 0 == 1) = false := by
          rw [beq_eq_false_iff_ne]
          intro h
          have := (hone.1 h).1
          omega
        rw [e]
        exact Ev.now _
end Go.Proofs.Ytnamdbnnijfniaa.Pure

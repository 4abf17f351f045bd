/- The units of tasks: the program's rows of places and the reference's number by task tell the same. -/
import Derived.Test.YtoalolbifakpiaaC1
namespace Go.Proofs.Ytoalolbifakpiaa.Pure
open Go.RowKit Go.Proofs.Ytoalolbifakpiaa.P Go.Proofs.YtoalolbifakpiaaW.PrintWords Go.Proofs.YtoalolbifakpiaaW.PrintLast

theorem l3_foll {a : S25} (b : S25) {turn : Int} (ha : taskB a = true) (ht : 0 ≤ turn ∧ turn ≤ 120) : impl_chains.l3 turn a b = follB a b turn := by
  have := (taskB_bounds ha).2.2.1
  unfold impl_chains.l3 follB
  rw [w64 (by omega) (by omega)]
def cat (us : List (List Int)) (u : Nat) : List Int := us.getD u []
def lst (c : List Int) : Int := rd c ((c.length - 1 : Nat) : Int)
def lasts (us : List (List Int)) : List Int := us.map lst
theorem l2_lst (us : List (List Int)) (u : Nat) : impl_chains.l2 us u = lst (cat us u) := rfl
theorem lst_snoc (c : List Int) (t : Int) : lst (c ++ [t]) = t := by
  unfold lst rd
  rw [List.length_append, List.length_singleton, Int.toNat_natCast]
  simp
theorem lst_mem (c : List Int) (h : c ≠ []) : lst c ∈ c := by
  unfold lst rd
  have := List.length_pos_iff.2 h
  rw [Int.toNat_natCast, List.getD_eq_getElem?_getD, List.getElem?_eq_getElem (show c.length - 1 < c.length by omega)]
  exact List.getElem_mem _
theorem lasts_rd (us : List (List Int)) (u : Nat) (h : u < us.length) : rd (lasts us) (u : Int) = lst (cat us u) := by
  unfold rd lasts cat
  rw [Int.toNat_natCast, List.getD_eq_getElem?_getD, List.getElem?_map, List.getElem?_eq_getElem h, List.getD_eq_getElem?_getD, List.getElem?_eq_getElem h]
  rfl
theorem cat_push (us : List (List Int)) (c : List Int) (u : Nat) (h : u < us.length + 1) : cat (us ++ [c]) u = if u = us.length then c else cat us u := by
  unfold cat
  rw [List.getD_eq_getElem?_getD]
  by_cases e : u = us.length
  · rw [if_pos e, e]; simp
  · rw [if_neg e, List.getElem?_append_left (by omega), ← List.getD_eq_getElem?_getD]
theorem cat_set (us : List (List Int)) (b u : Nat) (c : List Int) (h : b < us.length) : cat (us.set b c) u = if b = u then c else cat us u := by
  unfold cat
  rw [List.getD_eq_getElem?_getD, List.getElem?_set]
  by_cases e : b = u
  · rw [if_pos e, if_pos e, if_pos h]; rfl
  · rw [if_neg e, if_neg e, ← List.getD_eq_getElem?_getD]
def un (out : List Int) (t : Int) : Int := out.getD t.toNat (-1)
theorem un_set (out : List Int) (t x v : Int) (ht : 0 ≤ t) (hx : 0 ≤ x) (h : t < out.length) : un (out.set t.toNat v) x = if x = t then v else un out x := by
  unfold un
  rw [List.getD_eq_getElem?_getD, List.getElem?_set]
  by_cases e : x = t
  · rw [if_pos e, if_pos (by rw [e]), if_pos (by omega)]; rfl
  · rw [if_neg e, if_neg (by omega), ← List.getD_eq_getElem?_getD]
/-- The units' rows and the numbers by task say the same of the tasks done. -/
structure Rel (n : Nat) (ts : List Int) (us : List (List Int)) (out : List Int) : Prop where
  ol : out.length = n
  ne : ∀ u, u < us.length → cat us u ≠ []
  fil : ∀ u : Nat, u < us.length → cat us u = ts.filter (fun t => un out t == (u : Int))
  ins : ∀ t, t ∈ ts → 0 ≤ un out t ∧ un out t < us.length
  mem : ∀ t, t ∈ ts → 0 ≤ t ∧ t < n
theorem Rel.fil_set {n : Nat} {ts : List Int} {us : List (List Int)} {out : List Int} (h : Rel n ts us out) (t v : Int) (h0 : 0 ≤ t) (h1 : t < n) (hn : t ∉ ts) (u : Nat) :
    (ts ++ [t]).filter (fun x => un (out.set t.toNat v) x == (u : Int)) = ts.filter (fun x => un out x == (u : Int)) ++ (if v = (u : Int) then [t] else []) := by
  rw [List.filter_append]
  have hl := h.ol
  congr 1
  · refine List.filter_congr (fun x hx => ?_)
    rw [un_set _ _ _ _ h0 (h.mem x hx).1 (by omega), if_neg (fun e => hn (by rw [← e]; exact hx))]
  · rw [List.filter_cons, un_set _ _ _ _ h0 h0 (by omega), if_pos rfl]
    by_cases e : v = (u : Int)
    · simp [e]
    · simp [e]
theorem Rel.push {n : Nat} {ts : List Int} {us : List (List Int)} {out : List Int} (h : Rel n ts us out) (t : Int) (h0 : 0 ≤ t) (h1 : t < n) (hn : t ∉ ts) : Rel n (ts ++ [t]) (us ++ [[t]]) (out.set t.toNat (us.length : Int)) := by
  have hl := h.ol
  refine ⟨by rw [List.length_set]; exact h.ol, fun u hu => ?_, fun u hu => ?_, fun x hx => ?_, fun x hx => ?_⟩
  · rw [List.length_append, List.length_singleton] at hu
    rw [cat_push _ _ _ hu]
    by_cases e : u = us.length
    · rw [if_pos e]; simp
    · rw [if_neg e]; exact h.ne u (by omega)
  · rw [List.length_append, List.length_singleton] at hu
    rw [cat_push _ _ _ hu, h.fil_set t _ h0 h1 hn u]
    by_cases e : u = us.length
    · rw [if_pos e, if_pos (by omega)]
      have : ts.filter (fun x => un out x == (u : Int)) = [] := by
        rw [List.filter_eq_nil_iff]
        intro x hx
        have := (h.ins x hx).2
        simp only [beq_iff_eq]
        omega
      rw [this]; rfl
    · rw [if_neg e, if_neg (by omega), List.append_nil]
      exact h.fil u (by omega)
  · rw [List.length_append, List.length_singleton]
    rcases List.mem_append.1 hx with hx | hx
    · have := h.ins x hx
      rw [un_set _ _ _ _ h0 (h.mem x hx).1 (by omega), if_neg (fun e => hn (by rw [← e]; exact hx))]
      omega
    · rw [List.mem_singleton.1 hx, un_set _ _ _ _ h0 h0 (by omega), if_pos rfl]
      omega
  · rcases List.mem_append.1 hx with hx | hx
    · exact h.mem x hx
    · rw [List.mem_singleton.1 hx]; exact ⟨h0, h1⟩
theorem Rel.app {n : Nat} {ts : List Int} {us : List (List Int)} {out : List Int} (h : Rel n ts us out) (t : Int) (h0 : 0 ≤ t) (h1 : t < n) (hn : t ∉ ts) (b : Nat) (hb : b < us.length) : Rel n (ts ++ [t]) (us.set b (cat us b ++ [t])) (out.set t.toNat (b : Int)) := by
  have hl := h.ol
  refine ⟨by rw [List.length_set]; exact h.ol, fun u hu => ?_, fun u hu => ?_, fun x hx => ?_, fun x hx => ?_⟩
  · rw [List.length_set] at hu
    rw [cat_set _ _ _ _ hb]
    by_cases e : b = u
    · rw [if_pos e]; simp
    · rw [if_neg e]; exact h.ne u (by omega)
  · rw [List.length_set] at hu
    rw [cat_set _ _ _ _ hb, h.fil_set t _ h0 h1 hn u]
    by_cases e : b = u
    · rw [if_pos e, if_pos (by omega), e, h.fil u hu]
    · rw [if_neg e, if_neg (by omega), List.append_nil]
      exact h.fil u (by omega)
  · rw [List.length_set]
    rcases List.mem_append.1 hx with hx | hx
    · have := h.ins x hx
      rw [un_set _ _ _ _ h0 (h.mem x hx).1 (by omega), if_neg (fun e => hn (by rw [← e]; exact hx))]
      omega
    · rw [List.mem_singleton.1 hx, un_set _ _ _ _ h0 h0 (by omega), if_pos rfl]
      omega
  · rcases List.mem_append.1 hx with hx | hx
    · exact h.mem x hx
    · rw [List.mem_singleton.1 hx]; exact ⟨h0, h1⟩
theorem lasts_push (us : List (List Int)) (t : Int) : lasts (us ++ [[t]]) = lasts us ++ [t] := by simp [lasts, lst, rd]
theorem lasts_set (us : List (List Int)) (b : Nat) (t : Int) : lasts (us.set b (cat us b ++ [t])) = (lasts us).set b t := by
  unfold lasts
  rw [List.map_set, lst_snoc]
theorem Rel.last {n : Nat} {ts : List Int} {us : List (List Int)} {out : List Int} (h : Rel n ts us out) (u : Nat) (hu : u < us.length) : 0 ≤ lst (cat us u) ∧ lst (cat us u) < n := by
  have hm := lst_mem _ (h.ne u hu)
  rw [h.fil u hu] at hm
  have := (List.mem_filter.1 hm).1
  rw [← h.fil u hu] at this
  exact h.mem _ this
/-- The choice of a unit. -/
theorem best_bounds (l : List S25) (turn t : Int) (us : List (List Int)) : ∀ (k u : Nat) (best : Int), u + k = us.length → -1 ≤ best → best < us.length → -1 ≤ impl_chains.l1 l turn t us k u best ∧ impl_chains.l1 l turn t us k u best < us.length
  | 0, u, best, _, h1, h2 => by rw [impl_chains.l1]; exact ⟨h1, h2⟩
  | k + 1, u, best, h, h1, h2 => by
    rw [impl_chains.l1]
    split
    · split
      · exact best_bounds l turn t us k (u + 1) u (by omega) (by omega) (by omega)
      · split
        · exact best_bounds l turn t us k (u + 1) u (by omega) (by omega) (by omega)
        · exact best_bounds l turn t us k (u + 1) best (by omega) h1 h2
    · exact best_bounds l turn t us k (u + 1) best (by omega) h1 h2
theorem spec_best {n : Nat} {ts : List Int} {us : List (List Int)} {out : List Int} (l : List S25) (turn t : Int) (od : List Int) (i : Int) (r : List Int) (hn : l.length = n) (h40 : us.length ≤ 1000) (h : Rel n ts us out) (h0 : 0 ≤ t) (h1 : t < n)
    (hta : ∀ x, x ∈ l → taskB x = true) (htu : 0 ≤ turn ∧ turn ≤ 120) :
    ∀ u, u ≤ us.length → ∀ best : Int, -1 ≤ best → best < us.length →
      Ev (fun k => spec_Chains.l2 k l turn out od (lasts us) i t (impl_chains.l1 l turn t us (us.length - u) u best) (us.length : Int)) r → Ev (fun k => spec_Chains.l2 k l turn out od (lasts us) i t best (u : Int)) r := by
  have htask : ∀ x : Int, 0 ≤ x → x < n → taskB (rd_T25 l x) = true := fun x hx0 hx1 => hta _ (by unfold rd_T25; exact getD_mem _ _ _ (by omega))
  refine down us.length (fun best _ _ he => ?_) (fun u hu ih best hb1 hb2 he => ?_)
  · rw [Nat.sub_self, impl_chains.l1] at he; exact he
  · have e1 : us.length - u = (us.length - (u + 1)) + 1 := by omega
    rw [e1] at he
    obtain ⟨hl0, hl1⟩ := h.last u hu
    have hll : (lasts us).length = us.length := by simp [lasts]
    refine ev_at (f := fun k => if follB (rd_T25 l (lst (cat us u))) (rd_T25 l t) turn = true then (if best < 0 then spec_Chains.l2 k l turn out od (lasts us) i t (u : Int) ((u + 1 : Nat) : Int) else if (rd_T25 l (lst (cat us u))).f3 < (rd_T25 l (rd (lasts us) best)).f3 then spec_Chains.l2 k l turn out od (lasts us) i t (u : Int) ((u + 1 : Nat) : Int) else spec_Chains.l2 k l turn out od (lasts us) i t best ((u + 1 : Nat) : Int)) else spec_Chains.l2 k l turn out od (lasts us) i t best ((u + 1 : Nat) : Int)) ?_ (fun k => ?_)
    · rw [impl_chains.l1, l2_lst, l3_foll _ (htask _ hl0 hl1) htu] at he
      by_cases c : follB (rd_T25 l (lst (cat us u))) (rd_T25 l t) turn = true
      · rw [if_pos c] at he
        simp only [c, if_true]
        by_cases c2 : best < 0
        · rw [if_pos c2] at he
          simp only [c2, if_true]
          exact ih _ (by omega) (by omega) he
        · obtain ⟨b, rfl⟩ : ∃ b : Nat, best = (b : Int) := ⟨best.toNat, by omega⟩
          rw [if_neg c2, Int.toNat_natCast, l2_lst] at he
          simp only [c2, if_false]
          rw [lasts_rd us b (by omega)]
          by_cases c3 : (rd_T25 l (lst (cat us u))).f3 < (rd_T25 l (lst (cat us b))).f3
          · rw [if_pos c3] at he
            simp only [c3, if_true]
            exact ih _ (by omega) (by omega) he
          · rw [if_neg c3] at he
            simp only [c3, if_false]
            exact ih _ hb1 hb2 he
      · rw [if_neg c] at he
        simp only [c]
        exact ih _ hb1 hb2 he
    · have hsp := spec_follows (rd_T25 l (lst (cat us u))) (rd_T25 l t) turn
      have hfb : followsB (rd_T25 l (lst (cat us u))) (rd_T25 l t) turn = follB (rd_T25 l (lst (cat us u))) (rd_T25 l t) turn := by
        unfold followsB
        rw [htask _ hl0 hl1, htask _ h0 h1, inB_iff.2 htu]; rfl
      rw [hfb] at hsp
      have hru := lasts_rd us u hu
      simp only [spec_Chains.l2, hru, hsp, hll, Option.bind_some, show (u : Int) < (us.length : Int) by omega, show (0 : Int) ≤ (u : Int) by omega, hl0, show lst (cat us u) < (l.length : Int) by omega, h0, show t < (l.length : Int) by omega, if_true, w64s hu (show us.length ≤ 1000000000 by omega)]
      by_cases c : follB (rd_T25 l (lst (cat us u))) (rd_T25 l t) turn = true
      · simp only [c, if_true]
        by_cases c2 : best < 0
        · simp only [c2, if_true]
        · obtain ⟨b, rfl⟩ : ∃ b : Nat, best = (b : Int) := ⟨best.toNat, by omega⟩
          obtain ⟨hb0, hb3⟩ := h.last b (by omega)
          have hrb := lasts_rd us b (by omega)
          simp only [c2, if_false, hrb, hb0, show (0 : Int) ≤ (b : Int) by omega, hb2, show lst (cat us b) < (l.length : Int) by omega, if_true]
      · simp only [c, Bool.false_eq_true, if_false]

/-- All the tasks, one by one. -/
theorem spec_greedy (l : List S25) (turn : Int) (od : List Int) (hn : l.length ≤ 40) (hta : ∀ x, x ∈ l → taskB x = true) (htu : 0 ≤ turn ∧ turn ≤ 120) (hod : od.length = l.length) (hm : ∀ t, t ∈ od → 0 ≤ t ∧ t < l.length) (hnd : od.Nodup) :
    ∀ i, i ≤ od.length → ∀ us out, us.length ≤ i → Rel l.length (od.take i) us out → ∃ out', Rel l.length od (impl_chains.l0 l turn (od.drop i) us) out' ∧ Ev (fun k => spec_Chains.l1 k l turn out od (lasts us) (i : Int)) out' := by
  refine down od.length (fun us out hus h => ?_) (fun i hi ih us out hus h => ?_)
  · rw [List.take_length] at h
    refine ⟨out, ?_, ev_some (fun k => by simp [spec_Chains.l1])⟩
    rw [List.drop_length, impl_chains.l0]
    exact h
  · obtain ⟨t, ht⟩ : ∃ t, t = od.getD i 0 := ⟨_, rfl⟩
    have hmt : t ∈ od := by rw [ht]; exact getD_mem _ _ _ hi
    obtain ⟨h0, h1⟩ := hm t hmt
    have hnt : t ∉ od.take i := fun hx => by
      obtain ⟨j, hj, e⟩ := List.mem_iff_getElem.1 hx
      rw [List.getElem_take] at e
      rw [List.length_take] at hj
      have e2 : t = od[i] := by rw [ht, List.getD_eq_getElem?_getD, List.getElem?_eq_getElem hi]; rfl
      rw [e2] at e
      have := (List.getElem_inj hnd).1 e
      omega
    have hll : (lasts us).length = us.length := by simp [lasts]
    have hrd : rd od (i : Int) = t := by unfold rd; rw [Int.toNat_natCast, ht]
    have hol := h.ol
    obtain ⟨g1, g2⟩ := best_bounds l turn t us us.length 0 (-1) (by omega) (by omega) (by omega)
    have hto := take_getD 0 od i hi
    rw [← ht] at hto
    rw [drop_getD 0 od i hi, ← ht, impl_chains.l0]
    obtain ⟨b, hb⟩ : ∃ b, b = impl_chains.l1 l turn t us us.length 0 (-1) := ⟨_, rfl⟩
    rw [← hb] at g1 g2 ⊢
    by_cases c : b < 0
    · rw [if_pos c]
      have hR := h.push t h0 h1 hnt
      rw [← hto] at hR
      obtain ⟨out', r1, r2⟩ := ih (us ++ [[t]]) _ (by rw [List.length_append, List.length_singleton]; omega) hR
      refine ⟨out', r1, ?_⟩
      refine ev_at (f := fun k => spec_Chains.l2 k l turn out od (lasts us) (i : Int) t (-1) ((0 : Nat) : Int)) ?_ (fun k => by simp [spec_Chains.l1, hi, hrd])
      refine spec_best l turn t od (i : Int) out' rfl (by omega) h h0 h1 hta htu 0 (by omega) (-1) (by omega) (by omega) ?_
      rw [Nat.sub_zero, ← hb]
      refine ev_at r2 (fun k => ?_)
      rw [lasts_push]
      have e5 : (lasts us ++ [t]).set us.length t = lasts us ++ [t] := by
        rw [List.set_append_right _ _ (by omega), hll, Nat.sub_self]; rfl
      simp only [spec_Chains.l2, hll, Int.lt_irrefl, if_false, c, if_true, show us.length < 17592186044416 by omega, Option.bind_some, List.length_append, List.length_singleton, show (0 : Int) ≤ (us.length : Int) by omega, show (us.length : Int) < ((us.length + 1 : Nat) : Int) by omega, h0, hol, h1, w64s hi (show od.length ≤ 1000000000 by omega), Int.toNat_natCast, e5]
    · rw [if_neg c]
      obtain ⟨bn, rfl⟩ : ∃ bn : Nat, b = (bn : Int) := ⟨b.toNat, by omega⟩
      rw [Int.toNat_natCast]
      have hR := h.app t h0 h1 hnt bn (by omega)
      rw [← hto] at hR
      obtain ⟨out', r1, r2⟩ := ih (us.set bn (cat us bn ++ [t])) _ (by rw [List.length_set]; omega) hR
      refine ⟨out', r1, ?_⟩
      refine ev_at (f := fun k => spec_Chains.l2 k l turn out od (lasts us) (i : Int) t (-1) ((0 : Nat) : Int)) ?_ (fun k => by simp [spec_Chains.l1, hi, hrd])
      refine spec_best l turn t od (i : Int) out' rfl (by omega) h h0 h1 hta htu 0 (by omega) (-1) (by omega) (by omega) ?_
      rw [Nat.sub_zero, ← hb]
      refine ev_at r2 (fun k => ?_)
      rw [lasts_set]
      simp only [spec_Chains.l2, hll, Int.lt_irrefl, if_false, c, if_true, show (0 : Int) ≤ (bn : Int) by omega, g2, h0, hol, h1, w64s hi (show od.length ≤ 1000000000 by omega), Int.toNat_natCast]
theorem order_facts (l : List S25) : (impl_byDep.l0 l).length = l.length ∧ (∀ t, t ∈ impl_byDep.l0 l → 0 ≤ t ∧ t < l.length) ∧ (impl_byDep.l0 l).Nodup := by
  rw [ord_map]
  refine ⟨by rw [List.length_map, ord_len], fun t ht => ?_, ?_⟩
  · obtain ⟨x, hx, rfl⟩ := List.mem_map.1 ht
    have := (ord_mem l x).1 hx
    omega
  · refine List.Pairwise.map _ ?_ (ord_nodup l)
    intro a b hab e
    exact hab (by omega)
/-- The units. -/
def units (l : List S25) (turn : Int) : List (List Int) := impl_chains.l0 l turn (impl_byDep.l0 l) []
theorem spec_chains (l : List S25) (turn : Int) (hl : tasksB l = true) (htu : 0 ≤ turn ∧ turn ≤ 120) : ∃ out, Rel l.length (impl_byDep.l0 l) (units l turn) out ∧ Ev (fun k => spec_Chains.f k l turn) out := by
  obtain ⟨h40, hta⟩ := tasksB_parts hl
  obtain ⟨f1, f2, f3⟩ := order_facts l
  obtain ⟨out, r1, r2⟩ := spec_greedy l turn (impl_byDep.l0 l) h40 hta htu f1 f2 f3 0 (by omega) [] (List.replicate l.length (-1)) (by simp) ⟨by simp, fun u hu => absurd hu (by simp), fun u hu => absurd hu (by simp), fun t ht => absurd ht (by simp), fun t ht => absurd ht (by simp)⟩
  refine ⟨out, r1, ?_⟩
  have mk : ∀ i, i ≤ l.length → Ev (fun k => spec_Chains.l0 k l turn (List.replicate i (-1)) (i : Int)) out := by
    refine down l.length ?_ (fun i hi ih => ?_)
    · refine ev_at (f := fun k => (spec_l16Order.f k l).bind fun t => spec_Chains.l1 k l turn (List.replicate l.length (-1)) t [] 0) ?_ (fun k => by simp [spec_Chains.l0])
      exact Ev.bind (spec_order l (by omega)) r2
    · refine ev_at ih (fun k => ?_)
      have e : List.replicate i (-1 : Int) ++ [-1] = List.replicate (i + 1) (-1) := by rw [List.replicate_succ']
      simp [spec_Chains.l0, hi, show i < 17592186044416 by omega, w64s hi (show l.length ≤ 1000000000 by omega), e]
  unfold spec_Chains.f
  have ht := spec_tasks l (by omega)
  rw [hl] at ht
  refine Ev.bind ht ?_
  simp only [if_true, spec_l16Turn.f, l01In, inB_iff.2 htu, Option.bind_some, Bool.not_true]
  exact ev_at (mk 0 (by omega)) (fun k => by simp [spec_Chains.j0])
end Go.Proofs.Ytoalolbifakpiaa.Pure

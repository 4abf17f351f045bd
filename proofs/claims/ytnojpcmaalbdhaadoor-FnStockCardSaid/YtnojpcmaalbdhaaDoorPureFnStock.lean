/- The law FnStock, over lists and numbers alone: a drawn formation turned twice, parted and joined, printed and read is as it was. -/
import Derived.Test.YtnojpcmaalbdhaaDoorD
import Derived.Test.YtnojpcmaalbdhaaDoorU2
import Derived.Test.YtnojpcmaalbdhaaDoorU5
import Derived.Test.YtnojpcmaalbdhaaDoorX6
namespace Go.Proofs.YtnojpcmaalbdhaaDoor.Pure
open Go.RowKit Go.Proofs.YtnojpcmaalbdhaaDoor.P Go.Proofs.YtnojpcmaalbdhaaDoorW.PrintWords Go.Proofs.YtnojpcmaalbdhaaDoorW.PrintLast

theorem formB_drop {l : List S43} (h : formB l = true) (n : Nat) : formB (l.drop n) = true := by
  rw [formB_iff] at h ⊢
  refine ⟨by rw [List.length_drop]; omega, fun u hu => h.2.1 u (List.mem_of_mem_drop hu), ?_⟩
  rw [List.map_drop]
  exact h.2.2.sublist (List.drop_sublist _ _)
theorem turned_len (l : List S43) : (turned l).length = l.length := by simp [turned]
theorem turned_two (l : List S43) : turned (turned l) = l := by
  unfold turned
  rw [List.map_reverse, List.reverse_reverse, List.map_map]
  have : (flipU ∘ flipU) = id := by funext u; cases u; simp [flipU]
  rw [this, List.map_id]
theorem sum_app (a b : List Int) : (a ++ b).sum = a.sum + b.sum := by
  induction a with
  | nil => simp
  | cons x a ih => rw [List.cons_append, List.sum_cons, List.sum_cons, ih]; omega
theorem sum_rev (a : List Int) : a.reverse.sum = a.sum := by
  induction a with
  | nil => rfl
  | cons x a ih => rw [List.reverse_cons, sum_app, ih, List.sum_cons, List.sum_cons, List.sum_nil]; omega
theorem metres_turned (l : List S43) : metresSum (turned l) = metresSum l := by
  unfold metresSum turned
  rw [List.map_reverse, sum_rev, List.map_map]
  rfl
theorem metres_cut (l : List S43) (n : Nat) : metresSum (l.take n) + metresSum (l.drop n) = metresSum l := by
  unfold metresSum
  rw [← sum_app, ← List.map_append, List.take_append_drop]
theorem len_val {l : List S43} (h : formB l = true) : lenB l = metresSum l := by
  unfold lenB
  rw [if_pos h, metres_eq (form_units h).2 (by have := (form_units h).1; omega)]
theorem fit_iff (l : List S43) : fitFrom l 1 = true ↔ ∀ j, 1 ≤ j → j < l.length → fitB (l.getD (j - 1) z43) (l.getD j z43) = true := by
  unfold fitFrom
  rw [List.all_eq_true]
  constructor
  · intro h j h1 hj
    refine h j ?_
    rw [List.mem_iff_getElem]
    refine ⟨j - 1, by rw [List.length_drop, List.length_range]; omega, ?_⟩
    rw [List.getElem_drop, List.getElem_range]; omega
  · intro h j hj
    obtain ⟨i, hi, rfl⟩ := List.mem_iff_getElem.1 hj
    rw [List.length_drop, List.length_range] at hi
    rw [List.getElem_drop, List.getElem_range]
    exact h (1 + i) (by omega) (by omega)
theorem fit_symm (a b : S43) : fitB a b = fitB b a := by
  unfold fitB
  rw [Bool.beq_comm, Bool.and_comm (decide (a.f1 ≤ 3)), Bool.and_comm (decide (a.f1 > 6))]
theorem turned_getD (l : List S43) (j : Nat) (h : j < l.length) : (turned l).getD j z43 = flipU (l.getD (l.length - 1 - j) z43) := by
  unfold turned
  simp [List.getD_eq_getElem?_getD, h, show l.length - 1 - j < l.length by omega]
theorem run_turned {l : List S43} (h : formB l = true) : runB (turned l) = runB l := by
  have hf := formB_turned h
  unfold runB
  rw [h, hf, turned_len, Bool.true_and, Bool.eq_iff_iff, Bool.and_eq_true, Bool.and_eq_true, fit_iff, fit_iff, turned_len]
  have key : ∀ m : List S43, (∀ j, 1 ≤ j → j < m.length → fitB (m.getD (j - 1) z43) (m.getD j z43) = true) → ∀ j, 1 ≤ j → j < m.length → fitB ((turned m).getD (j - 1) z43) ((turned m).getD j z43) = true := by
    intro m hm j h1 hj
    rw [turned_getD m (j - 1) (by omega), turned_getD m j hj]
    show fitB (m.getD (m.length - 1 - (j - 1)) z43) (m.getD (m.length - 1 - j) z43) = true
    rw [fit_symm]
    have := hm (m.length - 1 - (j - 1)) (by omega) (by omega)
    rw [show m.length - 1 - (j - 1) - 1 = m.length - 1 - j by omega] at this
    exact this
  constructor
  · rintro ⟨a, b⟩
    refine ⟨a, ?_⟩
    have := key (turned l) (by rw [turned_len]; exact b)
    rw [turned_two, turned_len] at this
    exact this
  · rintro ⟨a, b⟩
    exact ⟨a, key l b⟩
theorem stock_j2 {l : List S43} (hF : formB l = true) (hsame : Ev (fun k => laws_sameUnits.f k l l) true) : Ev (fun k => laws_FnStock.j2 k l false) true := by
  by_cases c0 : (stockB l).toList = ([] : List UInt8)
  · refine Ev.step (f := fun k => (impl_StockText.f k l).bind fun t410 => (if t410.toList = ([] : List UInt8) then ((spec_StockText.f k l).bind fun t411 => (some (t411.toList == ([] : List UInt8)))) else ((impl_ReadStock.f k t410).bind fun bt412 => (if bt412.2 = true then ((laws_sameUnits.f k bt412.1 l).bind fun t416 => (some t416)) else (some false))))) (fun k => ?_) (Ev.bind (impl_stock l) ?_)
    · simp only [laws_FnStock.j2]; rw [if_neg (by decide)]
    · simp only [c0, if_true]
      refine Ev.bind (spec_stock l) ?_
      rw [c0]; exact Ev.now true
  · have hread : Ev (fun k => impl_ReadStock.f k (stockB l)) (l, true) := by
      by_cases c45 : (stockB l).toList = ([45] : List UInt8)
      · have hl0 : l = [] := by
          cases hl : l with
          | nil => rfl
          | cons u r =>
            exfalso
            rw [hl] at c45 hF
            unfold stockB at c45
            rw [if_pos hF, if_neg (by simp)] at c45
            by_cases c3 : (rowT (u :: r)).size > 120
            · rw [if_pos c3, list_of] at c45; simp at c45
            · rw [if_neg c3, list_of] at c45
              have hj := row_join (u :: r) (u :: r).length (Nat.le_refl _)
              rw [List.take_length, List.map_cons, List.map_cons, Lib.join_cons, ut_list] at hj
              have h5 : (rowTo (u :: r) (u :: r).length).data.toList = [45] := c45
              rw [h5] at hj
              have b := mid_len u
              have h6 := congrArg List.length hj
              simp at h6
        subst hl0
        unfold impl_ReadStock.f
        simp only [c45, if_true]
        exact Ev.now _
      · have hg : Good (stockB l) l := stock_good rfl (fun e => c45 (by rw [e, list_of])) (fun e => c0 (by rw [e, list_of]))
        obtain ⟨r, h1, h2, h3, h4⟩ := read_both (stockB l)
        rw [h4 l hg] at h2
        exact h2
    refine Ev.step (f := fun k => (impl_StockText.f k l).bind fun t410 => (if t410.toList = ([] : List UInt8) then ((spec_StockText.f k l).bind fun t411 => (some (t411.toList == ([] : List UInt8)))) else ((impl_ReadStock.f k t410).bind fun bt412 => (if bt412.2 = true then ((laws_sameUnits.f k bt412.1 l).bind fun t416 => (some t416)) else (some false))))) (fun k => ?_) (Ev.bind (impl_stock l) ?_)
    · simp only [laws_FnStock.j2]; rw [if_neg (by decide)]
    · simp only [c0, if_false]
      refine Ev.bind hread ?_
      simp only [if_true]
      exact Ev.bind hsame (Ev.now true)
theorem stock_j1 {l : List S43} (h7 : l.length ≤ 7) (j2 : Ev (fun k => laws_FnStock.j2 k l false) true) : Ev (fun k => laws_FnStock.j1 k l (turned l) false) true := by
  refine ev_at j2 (fun k => ?_)
  simp only [laws_FnStock.j1]
  rw [if_neg (by decide)]
  by_cases c : (l.length : Int) > 0
  · have e2 : wrap64 ((l.length : Int) - 1) = ((l.length - 1 : Nat) : Int) := by rw [w64 (by omega) (by omega)]; omega
    have e3 : rd_T43 (turned l) 0 = flipU (l.getD (l.length - 1) z43) := turned_getD l 0 (by omega)
    have e4 : rd_T43 l ((l.length - 1 : Nat) : Int) = l.getD (l.length - 1) z43 := rfl
    rw [if_pos c, if_pos (by rw [turned_len]; omega), e2, if_pos (by omega), if_pos (by omega), e3, e4, if_pos (show (flipU (l.getD (l.length - 1) z43)).f0 = (l.getD (l.length - 1) z43).f0 from rfl)]
    have e5 : ((flipU (l.getD (l.length - 1) z43)).f3 == (l.getD (l.length - 1) z43).f3) = false := by
      unfold flipU
      cases (l.getD (l.length - 1) z43).f3 <;> rfl
    rw [e5]
  · rw [if_neg c]
theorem stock_j0 {l : List S43} (hF : formB l = true) (n : Nat) (j1 : Ev (fun k => laws_FnStock.j1 k l (turned l) false) true) : Ev (fun k => laws_FnStock.j0 k l (l.take n) (l.drop n) (turned l) false) true := by
  have hFt := formB_turned hF
  have h30 := (form_units hF).1
  have hla := impl_len (l.take n)
  have hlb := impl_len (l.drop n)
  have hll := impl_len l
  have hlt' := impl_len (turned l)
  rw [len_val (formB_take hF n)] at hla
  rw [len_val (formB_drop hF n)] at hlb
  rw [len_val hF] at hll
  rw [len_val hFt, metres_turned] at hlt'
  have hcut := metres_cut l n
  have hbd := metresSum_bound (form_units hF).2
  have hrt := impl_run (turned l)
  have hrl := impl_run l
  rw [run_turned hF] at hrt
  refine Ev.step (f := fun k => (impl_FormLen.f k l).bind fun t399 => ((impl_FormLen.f k (l.take n)).bind fun t400 => ((impl_FormLen.f k (l.drop n)).bind fun t401 => (if t399 = (wrap64 (t400 + t401)) then ((impl_FormLen.f k (turned l)).bind fun t402 => ((impl_FormLen.f k l).bind fun t403 => (if t402 = t403 then ((impl_Runnable.f k (turned l)).bind fun t404 => ((impl_Runnable.f k l).bind fun t405 => (laws_FnStock.j1 k l (turned l) (t404 != t405)))) else (laws_FnStock.j1 k l (turned l) true)))) else (laws_FnStock.j1 k l (turned l) true))))) (fun k => ?_) (Ev.bind hll (Ev.bind hla (Ev.bind hlb ?_)))
  · simp only [laws_FnStock.j0]
    rw [if_neg (by decide)]
  · have e6 : wrap64 (metresSum (l.take n) + metresSum (l.drop n)) = metresSum l := by rw [hcut, w64 (by omega) (by omega)]
    simp only [e6, if_true]
    refine Ev.bind hlt' (Ev.bind hll ?_)
    simp only [if_true]
    refine Ev.bind hrt (Ev.bind hrl ?_)
    have : (runB l != runB l) = false := by cases runB l <;> rfl
    rw [this]
    exact j1
theorem ev_if {α : Type} {c : Prop} [Decidable c] (h : c) {g f : Nat → Option α} {r : α} (k : Ev g r) : Ev (fun n => if c then g n else f n) r := by simpa [h] using k
theorem ev_ifn {α : Type} {c : Prop} [Decidable c] (h : ¬ c) {g f : Nat → Option α} {r : α} (k : Ev f r) : Ev (fun n => if c then g n else f n) r := by simpa [h] using k
theorem FnStock : laws_FnStock.Pure := by
  intro code hlen _ hw
  refine Ev.rounds (evp_true ?_)
  unfold laws_FnStock.f
  by_cases hbig : (code.length : Int) > 1048576
  · rw [big_true hbig]
    exact evp_of (Ev.bind (Ev.now true) (ev_if rfl (Ev.now true))) rfl
  have hcl : code.length ≤ 1048576 := by omega
  rw [big_false hbig]
  refine evp_bind (evp_now false (Q := fun b => b = false) rfl) (fun b hb => ?_)
  subst hb
  obtain ⟨l, hd, hF, h7⟩ := draw_form code hcl
  refine evp_of (Q := fun b => b = true) (r := true) ?_ rfl
  refine ev_ifn (by decide) ?_
  refine Ev.bind hd ?_
  obtain ⟨v, ev, v0, v1⟩ := at_byte code hcl hw 3 (by omega) (by omega)
  have e1 : wrap64 ((l.length : Int) + 1) = ((l.length + 1 : Nat) : Int) := by rw [w64 (by omega) (by omega)]; omega
  have hm : Int.tmod v ((l.length + 1 : Nat) : Int) = v % ((l.length + 1 : Nat) : Int) := Int.tmod_eq_emod_of_nonneg v0
  have hlt : v % ((l.length + 1 : Nat) : Int) < ((l.length + 1 : Nat) : Int) := Int.emod_lt_of_pos v (by omega)
  have hge : 0 ≤ v % ((l.length + 1 : Nat) : Int) := Int.emod_nonneg v (by omega)
  obtain ⟨n, hn⟩ := Int.eq_ofNat_of_zero_le hge
  rw [hn] at hlt
  have hnl : n ≤ l.length := by omega
  rw [ev]
  refine Ev.bind (Ev.now v) ?_
  refine ev_ifn (by rw [e1]; omega) ?_
  rw [e1, hm, hn]
  have hp := impl_part l (n : Int)
  have hpb : partB l (n : Int) = (l.take n, l.drop n) := by
    unfold partB
    rw [hF, Bool.true_and, if_pos (inB_iff.2 ⟨by omega, by omega⟩), Int.toNat_natCast]
  rw [hpb] at hp
  have ht := impl_turn l
  have htb : turnB l = turned l := by unfold turnB; rw [if_pos hF]
  rw [htb] at ht
  have hFt := formB_turned hF
  have ht2 := impl_turn (turned l)
  have htb2 : turnB (turned l) = l := by unfold turnB; rw [if_pos hFt, turned_two]
  rw [htb2] at ht2
  have hsame := same_units l (by omega)
  have l1 : (l.take n).length ≤ 7 := by rw [List.length_take]; omega
  have l2 : (l.drop n).length ≤ 7 := by rw [List.length_drop]; omega
  refine Ev.bind hp (Ev.bind (Ev.now []) ?_)
  refine ev_if (by show 0 + (l.take n).length < 4398046511104; omega) ?_
  refine Ev.bind (Ev.now _) ?_
  refine ev_if (by rw [List.nil_append]; show (l.take n).length + (l.drop n).length < 4398046511104; omega) ?_
  refine Ev.bind ht ?_
  refine Ev.bind (show Ev (fun _ => impl_FormOk.f l) true by rw [impl_form, hF]; exact Ev.now true) ?_
  refine ev_if rfl ?_
  refine ev_if (by show ((l.take n).length : Int) = (n : Int); rw [List.length_take]; omega) ?_
  refine Ev.bind (show Ev (fun k => laws_sameUnits.f k ([] ++ l.take n ++ l.drop n) l) true by rw [List.nil_append, List.take_append_drop]; exact hsame) ?_
  refine ev_if rfl ?_
  refine ev_if (by rw [turned_len]) ?_
  refine Ev.bind ht2 (Ev.bind hsame ?_)
  exact stock_j0 hF n (stock_j1 h7 (stock_j2 hF hsame))
end Go.Proofs.YtnojpcmaalbdhaaDoor.Pure

/- A formation's text read: the reference's way; the two are one. -/
import Derived.Test.YtnojpcmaalbdhaaDoorX5
namespace Go.Proofs.YtnojpcmaalbdhaaDoor.Pure
open Go.RowKit Go.Proofs.YtnojpcmaalbdhaaDoor.P Go.Proofs.YtnojpcmaalbdhaaDoorW.PrintWords Go.Proofs.YtnojpcmaalbdhaaDoorW.PrintLast

theorem halves_of {w : S43} {R2 : List ByteArray} (h : R2.map (·.data.toList) = pcl 47 [] (midL w)) : R2 = [dec w.f0.toNat, dec w.f2.toNat] := by
  have e : midL w = Lib.join [Lib.decDigits w.f0.toNat, Lib.decDigits w.f2.toNat] [47] := by rw [join_two, Lib.join_one]; rfl
  rw [e, pcl_join 47 _ (by simp) (fun p hp => by
    rcases List.mem_cons.1 hp with e | hp
    · rw [e]; exact no_dig _ 47 (by decide)
    · rw [List.mem_singleton] at hp; rw [hp]; exact no_dig _ 47 (by decide))] at h
  apply map_data_inj
  rw [h]
  simp only [List.map_cons, List.map_nil, dec_list]
theorem spec_read_loop (t : ByteArray) (P : List ByteArray) (hP : P.length ≤ 1000) (hp : ∀ p, p ∈ P → p.size ≤ 120) : ∀ d i, i + d = P.length → ∀ acc : List S43, acc.length ≤ i →
    ∃ r, Ev (fun k => spec_ReadStock.l0 k t acc P (i : Int)) r ∧ (r = ([], false) ∨ (r.2 = true ∧ stockB r.1 = t)) ∧ ∀ L : List S43, (∀ u, u ∈ L → unitB u = true) → P.drop i = L.map ut → formB (acc ++ L) = true → stockB (acc ++ L) = t → r = (acc ++ L, true) := by
  intro d
  induction d with
  | zero =>
    intro i hi acc ha
    refine ⟨if formB acc = true ∧ stockB acc = t then (acc, true) else ([], false), Ev.step (f := fun k => (spec_FormOk.f k acc).bind fun t199 => (if t199 = true then ((spec_StockText.f k acc).bind fun t200 => (if t200.toList = t.toList then (some (acc, true)) else (some (([] : List (S43)), false)))) else (some (([] : List (S43)), false)))) (fun k => by simp only [spec_ReadStock.l0]; rw [if_neg (by omega)]) (Ev.bind (spec_form acc) ?_), ?_, fun L _ hL hf hs => ?_⟩
    · by_cases c0 : formB acc = true
      · simp only [c0, if_true, true_and]
        refine Ev.bind (spec_stock acc) ?_
        by_cases c : stockB acc = t
        · simp only [c, if_true]; exact Ev.now _
        · simp only [list_inj, c, if_false]; exact Ev.now _
      · rw [if_neg (fun h => c0 h.1)]
        simp only [c0]
        exact Ev.now _
    · by_cases c : formB acc = true ∧ stockB acc = t
      · rw [if_pos c]; exact .inr ⟨rfl, c.2⟩
      · rw [if_neg c]; exact .inl rfl
    · rw [List.drop_of_length_le (by omega)] at hL
      have : L = [] := by simpa using hL.symm
      subst this
      rw [List.append_nil] at hs hf ⊢
      rw [if_pos ⟨hf, hs⟩]
  | succ d ih =>
    intro i hi acc ha
    have hi' : i < P.length := by omega
    have hsz := hp _ (List.getElem_mem hi')
    by_cases c5 : (P[i].size : Int) < 5
    · refine ⟨([], false), ev_some (fun k => ?_), .inl rfl, fun L hL hd _ _ => ?_⟩
      · simp only [spec_ReadStock.l0]
        rw [rd_of P i hi', if_pos (by omega), if_pos (by omega), if_pos c5]
      · exfalso
        obtain ⟨w, L', _, e1, _⟩ := map_drop hi' hd
        have a := ut_len w
        have b := mid_len w
        rw [e1] at c5; omega
    have e1 : wrap64 ((P[i].size : Int) - 1) = ((P[i].size - 1 : Nat) : Int) := by rw [w64 (by omega) (by omega)]; omega
    obtain ⟨q, hq⟩ : ∃ q, q = P[i].extract 1 (P[i].size - 1) := ⟨_, rfl⟩
    have hqs : q.size ≤ 1000 := by
      have := dlen q
      rw [← this, hq, Lib.extract_data, List.length_take]; omega
    obtain ⟨R2, hR, hRm⟩ := spec_split q (by omega) 47
    have h47 : (((47 : UInt8).toNat : Nat) : Int) = 47 := rfl
    rw [h47] at hR
    have hmid : ∀ w, P[i] = ut w → R2 = [dec w.f0.toNat, dec w.f2.toNat] := fun w e => by
      refine halves_of (w := w) ?_
      rw [hRm, hq, e, ut_mid]
    have go : ∀ r, Ev (fun k => (if (R2.length : Int) = 2 then (if 0 < (R2.length : Int) then ((spec_l08Number.f k (rdOf ByteArray.empty R2 0)).bind fun t193 => (if 0 < (P[i].size : Int) then (if 1 < (R2.length : Int) then ((spec_l08Number.f k (rdOf ByteArray.empty R2 1)).bind fun t195 => (if 0 ≤ ((P[i].size - 1 : Nat) : Int) then (if ((P[i].size - 1 : Nat) : Int) < (P[i].size : Int) then (if acc.length < 4398046511104 then (spec_ReadStock.l0 k t (acc ++ [(⟨t193, wrap64 ((wrap64 (bt P[i] 0)) - 64), t195, ((bt P[i] ((P[i].size - 1 : Nat) : Int)) == 60)⟩ : S43)]) P ((i + 1 : Nat) : Int)) else (none)) else (none)) else (none))) else (none)) else (none))) else (none)) else (some (([] : List (S43)), false)))) r → Ev (fun k => spec_ReadStock.l0 k t acc P (i : Int)) r := by
      intro r hr
      refine Ev.step (f := fun k => (spec_l08Split.f k q 47).bind fun t189 => (if (t189.length : Int) = 2 then (if 0 < (t189.length : Int) then ((spec_l08Number.f k (rdOf ByteArray.empty t189 0)).bind fun t193 => (if 0 < (P[i].size : Int) then (if 1 < (t189.length : Int) then ((spec_l08Number.f k (rdOf ByteArray.empty t189 1)).bind fun t195 => (if 0 ≤ ((P[i].size - 1 : Nat) : Int) then (if ((P[i].size - 1 : Nat) : Int) < (P[i].size : Int) then (if acc.length < 4398046511104 then (spec_ReadStock.l0 k t (acc ++ [(⟨t193, wrap64 ((wrap64 (bt P[i] 0)) - 64), t195, ((bt P[i] ((P[i].size - 1 : Nat) : Int)) == 60)⟩ : S43)]) P ((i + 1 : Nat) : Int)) else (none)) else (none)) else (none))) else (none)) else (none))) else (none)) else (some (([] : List (S43)), false)))) (fun k => ?_) (Ev.bind hR hr)
      simp only [spec_ReadStock.l0]
      rw [rd_of P i hi', if_pos (by omega), if_pos (by omega), if_neg c5, e1, if_pos (by omega), if_pos (by omega), Int.toNat_natCast, ← hq, w64s hi' (by omega)]
    by_cases c2 : (R2.length : Int) = 2
    case neg =>
      refine ⟨([], false), go _ ?_, .inl rfl, fun L hL hd _ _ => ?_⟩
      · simp only [c2, if_false]; exact Ev.now _
      · exfalso
        obtain ⟨w, L', _, e, _⟩ := map_drop hi' hd
        rw [hmid w e] at c2
        exact c2 rfl
    have hR2s : ∀ p, p ∈ R2 → p.size ≤ 1000000 := fun p hp => by
      have hm : p.data.toList ∈ R2.map (·.data.toList) := List.mem_map.2 ⟨p, hp, rfl⟩
      rw [hRm] at hm
      have := pcl_le _ _ _ _ hm
      rw [dlen, dlen, List.length_nil] at this; omega
    have r0 := rd_of R2 0 (by omega)
    have r1 := rd_of R2 1 (by omega)
    obtain ⟨a, ha1, ha2⟩ := spec_number_ev (R2[0]'(by omega)) (hR2s _ (List.getElem_mem _))
    obtain ⟨b, hb1, hb2⟩ := spec_number_ev (R2[1]'(by omega)) (hR2s _ (List.getElem_mem _))
    obtain ⟨u, hu⟩ : ∃ u : S43, u = ⟨a, wrap64 ((wrap64 (bt P[i] 0)) - 64), b, ((bt P[i] ((P[i].size - 1 : Nat) : Int)) == 60)⟩ := ⟨_, rfl⟩
    obtain ⟨r, hr1, hr2, hr3⟩ := ih (i + 1) (by omega) (acc ++ [u]) (by rw [List.length_append, List.length_singleton]; omega)
    refine ⟨r, go r ?_, hr2, fun L hL hd hf hs => ?_⟩
    · have c6 : (0 : Int) < (P[i].size : Int) := by omega
      have c7 : (0 : Int) ≤ ((P[i].size - 1 : Nat) : Int) := by omega
      have c8 : ((P[i].size - 1 : Nat) : Int) < (P[i].size : Int) := by omega
      have c9 : acc.length < 4398046511104 := by omega
      simp only [c2, if_true, show ((0 : Int) < 2) = True from eq_true (by decide), show ((1 : Int) < 2) = True from eq_true (by decide)]
      rw [show rdOf ByteArray.empty R2 0 = R2[0]'(by omega) from r0, show rdOf ByteArray.empty R2 1 = R2[1]'(by omega) from r1]
      refine Ev.bind ha1 ?_
      simp only [c6, if_true]
      refine Ev.bind hb1 ?_
      simp only [c7, c8, c9, if_true]
      rw [hu] at hr1
      exact hr1
    · obtain ⟨w, L', rfl, e, e2⟩ := map_drop hi' hd
      have hw := hL w (List.mem_cons_self ..)
      obtain ⟨⟨w1, w2⟩, ⟨w3, w4⟩, w5, w6⟩ := unit_iff.1 hw
      have hR2 := hmid w e
      have x0 : R2[0]'(by omega) = dec w.f0.toNat := by simp [hR2]
      have x1 : R2[1]'(by omega) = dec w.f2.toNat := by simp [hR2]
      have d4 := dec_four (u := w.f0.toNat) (by omega)
      have d3 := dec_three (u := w.f2.toNat) (by omega)
      have ea : a = w.f0 := by
        have := ha2 w.f0.toNat (by omega) x0 (by rw [x0, dec_len]; omega)
        omega
      have eb : b = w.f2 := by
        have := hb2 w.f2.toNat (by omega) x1 (by rw [x1, dec_len]; omega)
        omega
      have ec : wrap64 ((wrap64 (bt P[i] 0)) - 64) = w.f1 := by
        rw [e, bt_first hw, w64 (x := 64 + w.f1) (by omega) (by omega), w64 (by omega) (by omega)]
        omega
      have ed : (bt P[i] ((P[i].size - 1 : Nat) : Int) == 60) = w.f3 := by rw [e]; exact bt_last w
      have ew : u = w := by rw [hu, ea, eb, ec, ed]
      have := hr3 L' (fun x hx => hL x (List.mem_cons_of_mem _ hx)) e2 (by rw [ew, List.append_assoc]; exact hf) (by rw [ew, List.append_assoc]; exact hs)
      rw [this, ew, List.append_assoc]; rfl
theorem spec_read (t : ByteArray) (h45 : ¬ t.toList = ([45] : List UInt8)) : ∃ r, Ev (fun k => spec_ReadStock.f k t) r ∧ (r = ([], false) ∨ (r.2 = true ∧ Good t r.1)) ∧ ∀ L, Good t L → r = (L, true) := by
  have hn45 : t ≠ ⟨#[45]⟩ := fun e => h45 (by rw [e, list_of])
  have bad : ∀ L, Good t L → ¬ (t.toList = ([] : List UInt8)) := fun L hL he => by
    rw [list_of, (good_join hL).1] at he
    obtain ⟨_, h2, h3, _⟩ := hL
    cases L with
    | nil => exact h2 rfl
    | cons u r =>
      rw [List.map_cons, List.map_cons, Lib.join_cons, ut_list] at he
      simp at he
  by_cases c1 : (t.size : Int) > 120
  · refine ⟨([], false), ?_, .inl rfl, fun L hL => by have := hL.2.2.2; omega⟩
    unfold spec_ReadStock.f
    simp only [h45, if_false, c1, if_true]
    exact ev_some (fun k => by simp [spec_ReadStock.j0])
  by_cases c0 : t.toList = ([] : List UInt8)
  · refine ⟨([], false), ?_, .inl rfl, fun L hL => absurd c0 (bad L hL)⟩
    unfold spec_ReadStock.f
    simp only [h45, if_false, c1]
    exact ev_some (fun k => by simp [spec_ReadStock.j0, c0])
  have hn0 : t ≠ ⟨#[]⟩ := fun e => c0 (by rw [e, list_of])
  obtain ⟨P, hPe, hPm⟩ := spec_split t (by omega) 43
  have h43 : (((43 : UInt8).toNat : Nat) : Int) = 43 := rfl
  rw [h43] at hPe
  have hlen : P.length ≤ 121 := by
    have := congrArg List.length hPm
    rw [List.length_map] at this
    have h2 := pcl_len 43 t.data.toList []
    rw [dlen] at h2; omega
  have hsz : ∀ p, p ∈ P → p.size ≤ 120 := fun p hp => by
    have hm : p.data.toList ∈ P.map (·.data.toList) := List.mem_map.2 ⟨p, hp, rfl⟩
    rw [hPm] at hm
    have := pcl_le _ _ _ _ hm
    rw [dlen, dlen, List.length_nil] at this; omega
  obtain ⟨r, hr1, hr2, hr3⟩ := spec_read_loop t P (by omega) hsz P.length 0 (by omega) [] (Nat.zero_le _)
  refine ⟨r, ?_, ?_, fun L hL => ?_⟩
  · unfold spec_ReadStock.f
    simp only [h45, if_false, c1]
    refine Ev.step (f := fun k => (spec_l08Split.f k t 43).bind fun t185 => (spec_ReadStock.l0 k t (([] : List (S43))) t185 0)) (fun k => ?_) (Ev.bind hPe hr1)
    simp only [spec_ReadStock.j0]
    rw [if_neg (by simpa using c0)]
  · rcases hr2 with h | ⟨h1, h2⟩
    · exact .inl h
    · exact .inr ⟨h1, stock_good h2 hn45 hn0⟩
  · obtain ⟨g1, g2, g3, g4⟩ := good_join hL
    have hP2 : P = L.map ut := by
      apply map_data_inj
      rw [hPm, g1]
      exact pcl_join 43 _ (by simpa using g3) (fun p hp => by
        obtain ⟨x, hx, rfl⟩ := List.mem_map.1 hp
        exact g2 x hx)
    have := hr3 L g4 (by rw [List.drop_zero]; exact hP2) (by rw [List.nil_append]; exact hL.1) (by rw [List.nil_append]; exact good_stock hL)
    rw [this, List.nil_append]
/-- What both read. -/
theorem read_both (t : ByteArray) : ∃ r : List S43 × Bool, Ev (fun k => spec_ReadStock.f k t) r ∧ Ev (fun k => impl_ReadStock.f k t) r ∧ r.1.length ≤ 30 ∧ ∀ L, Good t L → r = (L, true) := by
  by_cases c : t.toList = ([45] : List UInt8)
  · refine ⟨([], true), ?_, ?_, by simp, fun L hL => ?_⟩
    · unfold spec_ReadStock.f; simp only [c, if_true]; exact Ev.now _
    · unfold impl_ReadStock.f; simp only [c, if_true]; exact Ev.now _
    · exfalso
      have h1 := congrArg List.length (list_of t)
      rw [c] at h1
      have hs := dlen t
      obtain ⟨_, h2, h3, _⟩ := hL
      have : 5 ≤ t.size := by
        rw [← h3]
        cases L with
        | nil => exact absurd rfl h2
        | cons u r =>
          have hj := row_join (u :: r) (u :: r).length (Nat.le_refl _)
          rw [List.take_length, List.map_cons, List.map_cons, Lib.join_cons] at hj
          have h5 := congrArg List.length hj
          rw [List.length_append, dlen, dlen] at h5
          have a := ut_len u
          have b := mid_len u
          show 5 ≤ (rowTo (u :: r) (u :: r).length).size
          omega
      simp at h1
      omega
  · obtain ⟨r, h1, h2, h3⟩ := spec_read t c
    obtain ⟨r', h1', h2', h3'⟩ := impl_read t c
    have e : r' = r := by
      rcases h2 with h | ⟨hb, hg⟩
      · rcases h2' with h' | ⟨hb', hg'⟩
        · rw [h, h']
        · have := h3 _ hg'
          rw [this]
          exact Prod.ext rfl hb'
      · rw [h3' _ hg]
        exact Prod.ext rfl hb.symm
    subst e
    refine ⟨r', h1, h1', ?_, h3⟩
    rcases h2 with h | ⟨_, hg⟩
    · rw [h]; simp
    · exact (form_units hg.1).1
end Go.Proofs.YtnojpcmaalbdhaaDoor.Pure

/- The law FnExactPlaySales, over lists and numbers alone: program and reference tell the same train and the same answers. -/
import Derived.Test.YtklikbjlfaednaaQFnExactPlaySales
import Derived.Test.YtklikbjlfaednaaPU
namespace Go.Proofs.Ytklikbjlfaednaa.Pure
open Go.RowKit Go.Proofs.Ytklikbjlfaednaa.P Go.Proofs.YtklikbjlfaednaaW.PrintWords Go.Proofs.YtklikbjlfaednaaW.PrintLast
set_option linter.unusedVariables false

theorem sale_same {a b : Int} {l : List S66} (h : TrainP a b l) (s : S56) : impl_PlaySales.l0 a b l s = saleV a b l s := by
  have ht := (train_iff a b l).2 h
  unfold impl_PlaySales.l0 saleV
  by_cases c : s.f0 = 0
  · rw [if_pos c, if_pos c, sell_same ht]
  · rw [if_neg c, if_neg c]
    by_cases d : s.f0 = 1
    · obtain ⟨h1, h2⟩ := rm_del s.f1 l (h.order.imp fun q => q.1)
      rw [if_pos d, if_pos d]
      unfold unbookV
      rw [if_pos ht, h1, ← h2]
      simp only [decide_eq_true_eq]
    · rw [if_neg d, if_neg d]
theorem sales_same {a b : Int} : ∀ (ss : List S56) (l : List S66), TrainP a b l → impl_PlaySales.l1 a b ss l = salesV a b ss l
  | [], _, _ => rfl
  | s :: t, l, h => by
    unfold impl_PlaySales.l1 salesV
    rw [sale_same h, sales_same t _ (sale_train h s)]
theorem impl_play (a b : Int) (l : List S66) (ss : List S56) (h : l.length ≤ 1048576) : impl_PlaySales.f a b l ss = some (a, b, (playV a b l ss).1, (playV a b l ss).2) := by
  unfold impl_PlaySales.f playV
  rw [if_pos (by omega), trains_same]
  by_cases c : trainV a b l = true ∧ ss.length ≤ 200
  · rw [if_pos c, if_pos c, sales_same ss l ((train_iff a b l).1 c.1)]
  · rw [if_neg c, if_neg c]
theorem sales_len {a b : Int} : ∀ (ss : List S56) (l : List S66), (salesV a b ss l).2.length = ss.length
  | [], _ => rfl
  | s :: t, l => by unfold salesV; rw [List.length_cons, sales_len t, List.length_cons]
theorem play_len (a b : Int) (l : List S66) (ss : List S56) (h : l.length ≤ 1048576) : (playV a b l ss).1.length ≤ 1048576 ∧ (playV a b l ss).2.length ≤ 200 := by
  unfold playV
  split
  · rename_i c
    refine ⟨Nat.le_trans (sales_train ss ((train_iff a b l).1 c.1)).short (by omega), ?_⟩
    rw [sales_len]
    exact c.2
  · exact ⟨h, by simp⟩
def uns (x : S86) : S56 := ⟨x.f0, x.f1, x.f2, x.f3⟩
theorem to_sales (l : List S86) (h : l.length ≤ 1048576) : Ev (fun k => laws_toSaleS.f k l) (l.map uns) := by
  have key := ev_map z86 l uns (fun k acc i => laws_toSaleS.l0 k l acc i) (List.replicate l.length z56) (by simp)
    (fun k acc ha => by simp [laws_toSaleS.l0])
    (fun k acc i hi ha => by simp [laws_toSaleS.l0, laws_toSale.f, w64s hi (by omega), hi, ha, rd_T86, uns])
  simpa [laws_toSaleS.f, show l.length ≤ 8796093022208 by omega] using key
theorem eq_sales (l : List S56) (h : l.length ≤ 1048576) : Ev (fun k => laws_eqSaleS.f k l l) true := by
  have key := ev_true l.length (fun k i => laws_eqSaleS.l0 k l l i) (fun k => by simp [laws_eqSaleS.l0]) (fun k i hi => by simp [laws_eqSaleS.l0, laws_eqSale.f, w64s hi (by omega), hi])
  simpa [laws_eqSaleS.f] using key
def saleAt (x : Int) : S56 := ⟨x, x + 1, x + 2, x + 3⟩
theorem mark_sales (l : List S56) (x : Int) (h : l.length ≤ 1048576) (h0 : 0 ≤ x) (h1 : x ≤ 1000000000) : Ev (fun k => laws_markSaleS.f k l x) (x + 4 * l.length, (List.range l.length).map fun i => saleAt (x + 4 * (i : Nat))) := by
  have key := ev_mark l.length 4 saleAt (fun k l x i => laws_markSaleS.l0 k l x i) x l rfl (fun k x m hm => by simp [laws_markSaleS.l0, hm])
    (fun k m i hi hm => by
      have e1 := w64 (x := x + 4 * i + 1) (by omega) (by omega)
      have e2 := w64 (x := x + 4 * i + 1 + 1) (by omega) (by omega)
      have e3 := w64 (x := x + 4 * i + 1 + 1 + 1) (by omega) (by omega)
      have e4 := w64 (x := x + 4 * i + 1 + 1 + 1 + 1) (by omega) (by omega)
      simp [laws_markSaleS.l0, hm, hi, w64s hi (by omega), e1, e2, e3, e4, rd_T56, saleAt]
      grind)
  simpa [laws_markSaleS.f] using key
theorem FnExactPlaySales : laws_FnExactPlaySales.Pure2 := by
  intro ⟨a, b, l⟩ ss hq hs
  have hl : l.length ≤ maxLen := hq.2.2.1
  have hsl : ss.length ≤ maxLen := hs.1
  refine Ev.rounds ?_
  unfold laws_FnExactPlaySales.f
  simp only [sz_train a b l 1048576 (by omega) (by omega) hl, Option.bind_some]
  by_cases h : (1048576 : Int) < l.length
  · simpa [h] using Ev.now true
  · have hn : l.length ≤ 1048576 := by omega
    have hm : (l.map unb).length ≤ 1048576 := by simpa using hn
    simp only [h, if_false, show ¬ ((1048576 : Int) - l.length < 0) by omega]
    have hw : wrap64 ((1048576 : Int) - l.length - ss.length) = (1048576 : Int) - l.length - ss.length := by
      unfold maxLen at hsl
      exact w64 (by omega) (by omega)
    unfold laws_szSaleS.f
    rw [hw]
    clear hw
    by_cases h2 : (1048576 : Int) - l.length - ss.length < 0
    · simp only [if_pos h2, Option.bind_some]
      simpa using Ev.now true
    · simp only [if_neg h2, Option.bind_some]
      have hsn : ss.length ≤ 1048576 := by omega
      have hsm : (ss.map uns).length ≤ 1048576 := by simpa using hsn
      obtain ⟨f, hf⟩ : ∃ f, (playV a b (l.map unb) (ss.map uns)).1 = f := ⟨_, rfl⟩
      obtain ⟨o, ho⟩ : ∃ o, (playV a b (l.map unb) (ss.map uns)).2 = o := ⟨_, rfl⟩
      have hsp := spec_play a b (l.map unb) (ss.map uns) hm
      have him := impl_play a b (l.map unb) (ss.map uns) hm
      obtain ⟨hfl, hol⟩ := play_len a b (l.map unb) (ss.map uns) hm
      rw [hf] at hfl hsp him
      rw [ho] at hol hsp him
      have hol2 : o.length ≤ 1048576 := by omega
      refine Ev.bind (to_train a b l hn) (Ev.bind (to_sales ss hsn) (Ev.bind hsp (Ev.bind (to_train a b l hn) (Ev.bind (to_sales ss hsn) ?_))))
      simp only [him, Option.bind_some]
      refine Ev.bind (eq_train a b f hfl) ?_
      simp only [if_true]
      refine Ev.bind (eq_ints o hol2) ?_
      simp only [Bool.not_true]
      have hpos : ¬ (1 + 4 * ((l.map unb).length : Int) + 4 * ((ss.map uns).length : Int) < 0) := by omega
      have hpf : ¬ (1 + 4 * (f.length : Int) < 0) := by omega
      have hpo : ¬ (1 + 4 * (f.length : Int) + (o.length : Int) < 0) := by omega
      have hheld : Ev (fun k => laws_heldIntS.f k ((List.range o.length).map fun i => 1 + 4 * (f.length : Int) + (i : Nat)) (1 + 4 * (f.length : Int))) (1 + 4 * (f.length : Int) + o.length) := held_ints o.length _ hol2 (by omega) (by omega)
      have hmark := mark_ints o (1 + 4 * (f.length : Int)) hol2 (by omega) (by omega)
      refine ev_at (f := fun k => (laws_toTrain.f k a b l).bind fun bt382 => ((laws_eqTrain.f k a b (l.map unb) bt382.1 bt382.2.1 bt382.2.2).bind fun t387 => (if t387 = true then ((laws_toSaleS.f k ss).bind fun t388 => ((laws_eqSaleS.f k (ss.map uns) t388).bind fun t391 => (if t391 = true then ((laws_markTrain.f k a b (l.map unb) 1).bind fun bt392 => ((laws_markSaleS.f k (ss.map uns) bt392.1).bind fun bt394 => (if bt394.1 < 0 then (laws_FnExactPlaySales.j1 k ss o o true a b l a b f a b f) else ((laws_eqTrain.f k a b f a b f).bind fun t396 => (if t396 = true then ((laws_eqIntS.f k o o).bind fun t397 => (laws_FnExactPlaySales.j1 k ss o o (!t397) a b l a b f a b f)) else (laws_FnExactPlaySales.j1 k ss o o true a b l a b f a b f)))))) else (some false)))) else (some false)))) ?_ (fun k => by simp only [laws_FnExactPlaySales.j0, Bool.false_eq_true, if_false])
      refine Ev.bind (to_train a b l hn) (Ev.bind (eq_train a b _ hm) ?_)
      simp only [if_true]
      refine Ev.bind (to_sales ss hsn) (Ev.bind (eq_sales _ hsm) ?_)
      simp only [if_true]
      refine Ev.bind (mark_train a b _ hm) (Ev.bind (mark_sales (ss.map uns) (1 + 4 * ((l.map unb).length : Int)) hsm (by omega) (by omega)) ?_)
      simp only [if_neg hpos]
      refine Ev.bind (eq_train a b f hfl) ?_
      simp only [if_true]
      refine Ev.bind (eq_ints o hol2) ?_
      simp only [Bool.not_true]
      refine ev_at (f := fun k => (laws_markTrain.f k a b f 1).bind fun bt398 => ((laws_markIntS.f k o bt398.1).bind fun bt400 => ((laws_heldTrain.f k a b bt398.2 1).bind fun t402 => (if t402 < 0 then (some false) else ((laws_heldIntS.f k bt400.2 t402).bind fun t403 => (if t403 < 0 then (some false) else (if t403 = bt400.1 then ((laws_toTrain.f k a b l).bind fun bt404 => ((laws_toSaleS.f k ss).bind fun t409 => ((impl_PlaySales.f bt404.1 bt404.2.1 bt404.2.2 t409).bind fun bt412 => ((laws_eqTrain.f k bt412.1 bt412.2.1 bt412.2.2.1 a b f).bind fun t421 => (if t421 = true then ((laws_eqIntS.f k bt412.2.2.2 o).bind fun t422 => (laws_FnExactPlaySales.j2 k bt400.2 bt400.1 (!t422) a b bt398.2)) else (laws_FnExactPlaySales.j2 k bt400.2 bt400.1 true a b bt398.2)))))) else (some false)))))))) ?_ (fun k => by simp only [laws_FnExactPlaySales.j1, Bool.false_eq_true, if_false])
      refine Ev.bind (mark_train a b f hfl) (Ev.bind hmark (Ev.bind (held_train a b f.length hfl) ?_))
      simp only [if_neg hpf]
      refine Ev.bind hheld ?_
      simp only [if_neg hpo, if_true]
      refine Ev.bind (to_train a b l hn) (Ev.bind (to_sales ss hsn) ?_)
      simp only [him, Option.bind_some]
      refine Ev.bind (eq_train a b f hfl) ?_
      simp only [if_true]
      refine Ev.bind (eq_ints o hol2) ?_
      simp only [Bool.not_true]
      refine ev_at (f := fun k => (laws_heldTrain.f k a b (marksAt f.length) 1).bind fun t423 => (if t423 < 0 then (some false) else ((laws_heldIntS.f k ((List.range o.length).map fun i => 1 + 4 * (f.length : Int) + (i : Nat)) t423).bind fun t424 => (if t424 < 0 then (some false) else (if t424 = 1 + 4 * (f.length : Int) + (o.length : Int) then (some true) else (some false)))))) ?_ (fun k => by simp only [laws_FnExactPlaySales.j2, Bool.false_eq_true, if_false])
      refine Ev.bind (held_train a b f.length hfl) ?_
      simp only [if_neg hpf]
      refine Ev.bind hheld ?_
      simp only [if_neg hpo, if_true]
      exact Ev.now _
end Go.Proofs.Ytklikbjlfaednaa.Pure

/- The law FnJourney, over lists and numbers alone: the legs told of a drawn question are right. -/
import Derived.Test.YtdpjoblnjjkbfaaDoorD
import Derived.Test.YtdpjoblnjjkbfaaDoorPJ
namespace Go.Proofs.YtdpjoblnjjkbfaaDoor.Pure
open Go.RowKit Go.Proofs.YtdpjoblnjjkbfaaDoor.P Go.Proofs.YtdpjoblnjjkbfaaDoorW.PrintWords Go.Proofs.YtdpjoblnjjkbfaaDoorW.PrintLast

theorem loop_len (bs : ByteArray) (d : Nat) : ∀ i r, i + d = bs.size → (ByteArray.toList.loop bs i r).length = r.length + d := by
  induction d with
  | zero =>
    intro i r h
    rw [ByteArray.toList.loop, if_neg (by omega), List.length_reverse]; rfl
  | succ d ih =>
    intro i r h
    rw [ByteArray.toList.loop, if_pos (by omega), ih (i + 1) _ (by omega), List.length_cons]; omega
theorem bytes_len (bs : ByteArray) : bs.toList.length = bs.size := by
  unfold ByteArray.toList
  rw [loop_len bs bs.size 0 [] (by omega), List.length_nil, Nat.zero_add]
theorem text_pos (l : List S46) (ls : List S48) : ∀ n, 1 ≤ n → 1 ≤ (textTo l ls n).size
  | 0, h => absurd h (by omega)
  | i + 1, _ => by
    unfold textTo
    rw [ByteArray.size_append]
    have : 1 ≤ (legT l (ls.getD i z48)).size := by
      simp only [legT, ByteArray.size_append, one32, one45]; omega
    omega
/-- No single trip arrives sooner: the law's three loops. -/
theorem no_sooner {l : List S46} (hF : Fit l) {fr tg mi ch E : Int} {L : List S48} (hE : ∀ d a, mi ≤ d → Leg l fr tg d a → E ≤ a) {fin : Bool} (hfin : Ev (fun k => (impl_JourneyText.f k l L ch).bind fun t => some (t.toList != ([] : List UInt8))) fin) :
    Ev (fun k => laws_FnJourney.l0 k l fr tg mi ch E L 0) fin := by
  have pl : ∀ i, i ≤ l.length → Ev (fun k => laws_FnJourney.l0 k l fr tg mi ch E L (i : Int)) fin := by
    refine down l.length (Ev.step (f := fun k => (impl_JourneyText.f k l L ch).bind fun t => some (t.toList != ([] : List UInt8))) (fun k => by simp only [laws_FnJourney.l0]; rw [if_neg (by omega)]) hfin) ?_
    intro i hi ih
    have hlen := hF.1
    have hmem := getD_mem z46 l i hi
    have hcl := (hF.2 _ hmem).2
    have e46 : rd_T46 l ((i : Nat) : Int) = l.getD i z46 := rfl
    have p1 : ∀ j, j ≤ (l.getD i z46).f1.length → Ev (fun k => laws_FnJourney.l1 k l fr tg mi ch E L (i : Int) (l.getD i z46).f1 (j : Int)) fin := by
      refine down _ (ev_at ih (fun k => by simp only [laws_FnJourney.l1]; rw [if_neg (by omega), w64s hi (by omega)])) ?_
      intro j hj ihj
      have ej : rd_T43 (l.getD i z46).f1 ((j : Nat) : Int) = (l.getD i z46).f1.getD j z43 := rfl
      have p2 : ∀ m, m ≤ (l.getD i z46).f1.length → j < m → Ev (fun k => laws_FnJourney.l2 k l fr tg mi ch E L (i : Int) (l.getD i z46).f1 (j : Int) (m : Int)) fin := by
        refine down _ (fun _ => ev_at ihj (fun k => by simp only [laws_FnJourney.l2]; rw [if_neg (by omega), w64s hj (by omega)])) ?_
        intro m hm ihm hjm
        have em : rd_T43 (l.getD i z46).f1 ((m : Nat) : Int) = (l.getD i z46).f1.getD m z43 := rfl
        refine ev_at (ihm (by omega)) (fun k => ?_)
        simp only [laws_FnJourney.l2]
        rw [if_pos (by omega), if_pos (by omega), if_pos (by omega), w64s hm (by omega), ej, em]
        by_cases c1 : ((l.getD i z46).f1.getD j z43).f0 = fr
        · rw [if_pos c1]
          by_cases c2 : ((l.getD i z46).f1.getD j z43).f2 ≥ mi
          · rw [if_pos c2, if_pos (by omega)]
            by_cases c3 : ((l.getD i z46).f1.getD m z43).f0 = tg
            · have := hE _ _ c2 ⟨_, hmem, (legIn_idx _ _ _ _ _).2 ⟨j, hj, c1, rfl, _, (mem_drop_getD _ _ _).2 ⟨m, by omega, hm, rfl⟩, c3, rfl⟩⟩
              rw [if_pos c3, if_neg (by omega)]
            · rw [if_neg c3]
          · rw [if_neg c2]
        · rw [if_neg c1]
      refine ev_at (p2 (j + 1) (by omega) (by omega)) (fun k => ?_)
      simp only [laws_FnJourney.l1]
      rw [if_pos (by omega), w64s hj (by omega)]
    refine ev_at (p1 0 (Nat.zero_le _)) (fun k => ?_)
    simp only [laws_FnJourney.l0]
    rw [if_pos (by omega), if_pos (by omega), e46]
    rfl
  exact pl 0 (Nat.zero_le _)
theorem FnJourney : laws_FnJourney.Pure := by
  intro code hlen _ hw
  refine Ev.rounds (evp_true ?_)
  unfold laws_FnJourney.f
  by_cases hbig : (code.length : Int) > 1048576
  · simp only [big_true hbig, Option.bind_some, if_true]
    exact evp_now _ rfl
  have hcl : code.length ≤ 1048576 := by omega
  simp only [big_false hbig, Option.bind_some, Bool.false_eq_true, if_false]
  refine evp_bind (draw_question code hcl) (fun q hq => ?_)
  obtain ⟨l, fr, tg, mi, ch⟩ := q
  obtain ⟨hT, hF, h1, h2, h3, h4⟩ := hq
  dsimp only at hT hF h1 h2 h3 h4 ⊢
  obtain ⟨v, ev, v0, v1⟩ := at_byte code hcl hw 5 (by omega) (by omega)
  simp only [ev, Option.bind_some]
  have hm : Int.tmod v 5 = v % 5 := Int.tmod_eq_emod_of_nonneg v0
  rw [hm, w64 (x := 1 + v % 5) (by omega) (by omega)]
  obtain ⟨n, hn⟩ : ∃ n : Nat, 1 + v % 5 = (n : Int) := ⟨(1 + v % 5).toNat, by omega⟩
  have hn1 : 1 ≤ n ∧ n ≤ 5 := by omega
  rw [hn]
  have hfr : 0 ≤ fr ∧ fr < 30 := by omega
  have htg : 0 ≤ tg ∧ tg < 30 := by omega
  have hmi : 0 ≤ mi ∧ mi ≤ 100000 := by omega
  have hc : 0 ≤ ch ∧ ch ≤ 60 := by omega
  have hask : ∀ m : Nat, m ≤ 5 → askB l fr tg mi ch (m : Int) = true := fun m hm => ask_true hT hfr htg hmi hc (by omega)
  have hs := soon_ev hT hF hfr htg hmi hc n hn1.2
  have hsp := spec_soonest l hF fr tg mi ch (n : Int)
  rw [show soonB l fr tg mi ch (n : Int) = soonE l fr tg mi ch n from by unfold soonB soonE; rw [if_pos (hask n hn1.2), Int.toNat_natCast]] at hsp
  have hj := impl_journey l hF fr tg mi ch (n : Int)
  obtain ⟨j1, j2⟩ := journey_facts hT hfr htg hmi hc n hn1.2
  have hhome := fun he => at_home hT hfr htg hmi hc he n
  generalize hEE : soonE l fr tg mi ch n = E at *
  refine evp_bind (evp_of hs (Q := fun t => t = E) rfl) (fun t ht => ?_)
  subst ht
  refine evp_bind (evp_of hj (Q := fun t => t = jourB l fr tg mi ch (n : Int)) rfl) (fun L hL => ?_)
  refine evp_bind (evp_of hsp (Q := fun x => x = t) rfl) (fun x hx => ?_)
  simp only [hx, if_true]
  suffices key : Ev (fun k => if t < 0 then laws_FnJourney.j0 k l fr tg mi ch (n : Int) t L true else laws_FnJourney.j0 k l fr tg mi ch (n : Int) t L (fr == tg)) true from evp_of key rfl
  by_cases hneg : t < 0
  · simp only [hneg, if_true]
    have hL0 : L = [] := by rw [hL]; exact j1 (.inr hneg)
    subst hL0
    refine ev_some (fun k => ?_)
    simp only [laws_FnJourney.j0, if_true, List.length_nil]
    by_cases he : fr = tg
    · have := hhome he; omega
    · simp [he]
  · simp only [hneg, if_false]
    by_cases he : fr = tg
    · have hL0 : L = [] := by rw [hL]; exact j1 (.inl he)
      subst hL0
      have := hhome he
      refine ev_some (fun k => ?_)
      simp [laws_FnJourney.j0, he, this]
    · obtain ⟨L', hL', hlen', hEle, hC, hne, hsing⟩ := j2 he hneg
      rw [← hL] at hL'
      subst hL'
      have hpos := chain_pos hC
      have hok := chain_ok hC hT hc (by omega)
      have hhd := chain_head hC
      have hla := chain_last _ _ _ hC
      have hb1 := legIn_iff.1 hhd.1
      have hb2 := legIn_iff.1 hla.1
      have er0 : rd_T48 L 0 = L.getD 0 z48 := rfl
      have erl : rd_T48 L ((L.length - 1 : Nat) : Int) = L.getD (L.length - 1) z48 := rfl
      have ew : wrap64 ((L.length : Int) - 1) = ((L.length - 1 : Nat) : Int) := by rw [w64 (by omega) (by omega)]; omega
      have hfin : Ev (fun k => (impl_JourneyText.f k l L ch).bind fun t => some (t.toList != ([] : List UInt8))) true := by
        refine Ev.bind (impl_text hF L ch) ?_
        have : (jText l L ch).toList ≠ [] := by
          unfold jText
          rw [if_pos hok]
          have hp := text_pos l L L.length hpos
          intro hh
          rw [← bytes_len, hh] at hp
          exact absurd hp (by simp)
        have hb : ((jText l L ch).toList != ([] : List UInt8)) = true := by simpa using this
        rw [hb]
        exact Ev.now true
      have h3 : Ev (fun k => laws_FnJourney.j3 k l fr tg mi ch t L false) true :=
        ev_at (no_sooner hF (hsing (by omega)) hfin) (fun k => by simp [laws_FnJourney.j3])
      have h2 : Ev (fun k => laws_FnJourney.j2 k l fr tg mi ch t L false) true := by
        by_cases c : (L.length : Int) > 1
        · have hs2 := soon_ev hT hF hfr htg hmi hc (L.length - 1) (by omega)
          refine Ev.step (f := fun k => (impl_Soonest.f k l fr tg mi ch ((L.length - 1 : Nat) : Int)).bind fun x => laws_FnJourney.j3 k l fr tg mi ch t L (x == t)) (fun k => ?_) (Ev.bind hs2 ?_)
          · simp only [laws_FnJourney.j2]
            rw [if_neg (by decide), if_pos c, ew]
          · rw [show (soonE l fr tg mi ch (L.length - 1) == t) = false from by simpa using hne]
            exact h3
        · refine ev_at h3 (fun k => ?_)
          simp only [laws_FnJourney.j2]
          rw [if_neg (by decide), if_neg c]
      have h1 : Ev (fun k => laws_FnJourney.j1 k l fr tg mi ch t L false) true := by
        refine ev_at h2 (fun k => ?_)
        simp only [laws_FnJourney.j1]
        rw [ew, erl, er0, if_neg (by decide)]
        rw [if_pos (by omega), if_pos (by omega), if_pos (by omega), if_pos (by omega), if_pos (by omega), if_pos (by omega), if_pos (by omega), if_pos (by omega), if_pos (by omega), if_pos (by omega), if_pos (by omega)]
        rw [if_pos (show (rd_T43 (rd_T46 l (L.getD 0 z48).f0).f1 (L.getD 0 z48).f1).f0 = fr from hhd.2.1), if_neg (show ¬ (rd_T43 (rd_T46 l (L.getD 0 z48).f0).f1 (L.getD 0 z48).f1).f2 < mi from by have : mi ≤ (rd_T43 (rd_T46 l (L.getD 0 z48).f0).f1 (L.getD 0 z48).f1).f2 := hhd.2.2; omega), if_pos (show (rd_T43 (rd_T46 l (L.getD (L.length - 1) z48).f0).f1 (L.getD (L.length - 1) z48).f2).f0 = tg from hla.2.1)]
        rw [show ((rd_T43 (rd_T46 l (L.getD (L.length - 1) z48).f0).f1 (L.getD (L.length - 1) z48).f2).f1 != t) = false from by rw [show (rd_T43 (rd_T46 l (L.getD (L.length - 1) z48).f0).f1 (L.getD (L.length - 1) z48).f2).f1 = t from hla.2.2]; simp]
      have hi := impl_legs l hF L ch
      have hsl := spec_legs l hF L ch
      rw [hok] at hi hsl
      refine Ev.step (f := fun k => (impl_LegsOk.f k l L ch).bind fun t392 => (if t392 = true then ((spec_LegsOk.f k l L ch).bind fun t393 => (laws_FnJourney.j1 k l fr tg mi ch t L (!t393))) else (laws_FnJourney.j1 k l fr tg mi ch t L true))) (fun k => ?_) (Ev.bind hi ?_)
      · simp only [laws_FnJourney.j0]
        rw [if_neg (by simpa using he), if_neg (by omega), if_neg (by omega)]
      · simp only [if_true]
        exact Ev.bind hsl (by simpa using h1)
end Go.Proofs.YtdpjoblnjjkbfaaDoor.Pure

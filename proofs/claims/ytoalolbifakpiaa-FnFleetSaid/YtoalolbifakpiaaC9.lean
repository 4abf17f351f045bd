/- Tasks as they are drawn. -/
import Derived.Test.YtoalolbifakpiaaT1
import Derived.Test.YtoalolbifakpiaaF
namespace Go.Proofs.Ytoalolbifakpiaa.Pure
open Go.RowKit Go.Proofs.Ytoalolbifakpiaa.P Go.Proofs.YtoalolbifakpiaaW.PrintWords Go.Proofs.YtoalolbifakpiaaW.PrintLast

def rightT (t : S25) : Prop := (0 ≤ t.f0 ∧ t.f0 ≤ 2) ∧ (0 ≤ t.f1 ∧ t.f1 ≤ 2) ∧ (0 ≤ t.f2 ∧ t.f2 ≤ 299) ∧ (t.f2 < t.f3 ∧ t.f3 ≤ t.f2 + 50) ∧ (0 ≤ t.f4 ∧ t.f4 ≤ 89)
theorem rightT_task {t : S25} (h : rightT t) : taskB t = true := (taskB_iff t).2 ⟨⟨by have := h.1; omega, by have := h.2.1; omega⟩, ⟨by have := h.2.2.1; omega, by have := h.2.2.2.1; omega, by have := h.2.2.1; have := h.2.2.2.1; omega⟩, by have := h.2.2.2.2; omega⟩
theorem draw_size (l : List Int) (hl : l.length ≤ 1048576) : ∃ v, spec_l01Size.f l 14 = some v ∧ 2 ≤ v ∧ v ≤ 14 := by
  unfold spec_l01Size.f
  rw [w64 (x := (l.length : Int) / 16) (by omega) (by omega), w64 (by omega) (by omega)]
  by_cases h : 2 + (l.length : Int) / 16 > 14
  · exact ⟨14, by rw [if_pos h], by omega, by omega⟩
  · exact ⟨_, by rw [if_neg h], by omega, by omega⟩
theorem draw_loop (b : List Int) (hb : b.length ≤ 1048576) : ∀ (n : Nat) (x : List S25) (i h : Int), n + x.length ≤ 1000 → At b i → (∀ t, t ∈ x → rightT t) → EvP (fun k => spec_l16DrawRight.l0 k x (n : Int) b i h) (fun r => (∀ t, t ∈ r.1 → rightT t) ∧ r.1.length = x.length + n ∧ At b r.2.1)
  | 0, x, i, h, hn, hi, hx => evp_of (ev_some (r := (x, i, h)) (fun k => by simp [spec_l16DrawRight.l0])) ⟨hx, by simp, hi⟩
  | n + 1, x, i, h, hn, hi, hx => by
    have hw : wrap64 (((n + 1 : Nat) : Int) - 1) = (n : Int) := by rw [w64 (by omega) (by omega)]; omega
    refine evp_at (f := fun k => (spec_l01Below.f b i h 300).bind fun bt127 => ((spec_l01Below.f b bt127.2.1 bt127.2.2 3).bind fun bt130 => ((spec_l01Below.f b bt130.2.1 bt130.2.2 3).bind fun bt133 => ((spec_l01Below.f b bt133.2.1 bt133.2.2 50).bind fun bt136 => ((spec_l01Below.f b bt136.2.1 bt136.2.2 90).bind fun bt139 => (if (x.length : Int) > 0 then ((spec_l01Once.f b bt139.2.1 bt139.2.2 3).bind fun bt143 => (if bt143.1 = true then (if x.length < 3518437208883 then (spec_l16DrawRight.l0 k (x ++ [(⟨bt130.1, bt133.1, bt127.1, wrap64 ((wrap64 (bt127.1 + 1)) + bt136.1), bt139.1⟩ : S25)]) (n : Int) b bt143.2.1 bt143.2.2) else (none)) else ((spec_l01Below.f b bt143.2.1 bt143.2.2 (x.length : Int)).bind fun bt149 => (if 0 ≤ bt149.1 then (if bt149.1 < (x.length : Int) then (if x.length < 3518437208883 then (spec_l16DrawRight.l0 k (x ++ [(⟨(rd_T25 x bt149.1).f1, bt133.1, bt127.1, wrap64 ((wrap64 (bt127.1 + 1)) + bt136.1), bt139.1⟩ : S25)]) (n : Int) b bt149.2.1 bt149.2.2) else (none)) else (none)) else (none))))) else (if x.length < 3518437208883 then (spec_l16DrawRight.l0 k (x ++ [(⟨bt130.1, bt133.1, bt127.1, wrap64 ((wrap64 (bt127.1 + 1)) + bt136.1), bt139.1⟩ : S25)]) (n : Int) b bt139.2.1 bt139.2.2) else (none)))))))) ?_ (fun k => by
      rw [spec_l16DrawRight.l0, if_pos (by omega)]
      simp only [hw])
    refine below_then b i h 300 hb hi (by omega) (by omega) (fun dep i1 h1 p1 q1 hi1 => ?_)
    refine below_then b i1 h1 3 hb hi1 (by omega) (by omega) (fun fr i2 h2 p2 q2 hi2 => ?_)
    refine below_then b i2 h2 3 hb hi2 (by omega) (by omega) (fun tn i3 h3 p3 q3 hi3 => ?_)
    refine below_then b i3 h3 50 hb hi3 (by omega) (by omega) (fun dur i4 h4 p4 q4 hi4 => ?_)
    refine below_then b i4 h4 90 hb hi4 (by omega) (by omega) (fun km i5 h5 p5 q5 hi5 => ?_)
    simp only
    have ew : wrap64 ((wrap64 (dep + 1)) + dur) = dep + 1 + dur := by rw [w64 (x := dep + 1) (by omega) (by omega), w64 (by omega) (by omega)]
    have hsz : x.length < 3518437208883 := by omega
    have hnew : ∀ f : Int, 0 ≤ f → f ≤ 2 → ∀ t, t ∈ x ++ [(⟨f, tn, dep, wrap64 ((wrap64 (dep + 1)) + dur), km⟩ : S25)] → rightT t := fun f f0 f1 t ht => by
      rcases List.mem_append.1 ht with ht | ht
      · exact hx t ht
      · rw [List.mem_singleton.1 ht, ew]
        exact ⟨⟨f0, f1⟩, ⟨p3, by show tn ≤ 2; omega⟩, ⟨p1, by show dep ≤ 299; omega⟩, ⟨by show dep < dep + 1 + dur; omega, by show dep + 1 + dur ≤ dep + 50; omega⟩, ⟨p5, by show km ≤ 89; omega⟩⟩
    have fin : ∀ (f i6 h6 : Int), 0 ≤ f → f ≤ 2 → At b i6 → EvP (fun k => spec_l16DrawRight.l0 k (x ++ [(⟨f, tn, dep, wrap64 ((wrap64 (dep + 1)) + dur), km⟩ : S25)]) (n : Int) b i6 h6) (fun r => (∀ t, t ∈ r.1 → rightT t) ∧ r.1.length = x.length + (n + 1) ∧ At b r.2.1) := fun f i6 h6 f0 f1 hi6 => by
      refine evp_mono (draw_loop b hb n _ i6 h6 (by rw [List.length_append, List.length_singleton]; omega) hi6 (hnew f f0 f1)) (fun r hr => ⟨hr.1, by rw [hr.2.1, List.length_append, List.length_singleton]; omega, hr.2.2⟩)
    by_cases c : (x.length : Int) > 0
    · simp only [c, if_true]
      obtain ⟨v, i6, h6, ev, pv, hi6⟩ := l01Below b i5 h5 3 hb hi5 (by omega) (by omega)
      simp only [spec_l01Once.f, ev, Option.bind_some]
      by_cases c2 : (v == 0) = true
      · simp only [c2, if_true, hsz]
        exact fin fr i6 h6 p2 (by omega) hi6
      · simp only [c2]
        refine below_then b i6 h6 (x.length : Int) hb hi6 (by omega) (by omega) (fun w i7 h7 p7 q7 hi7 => ?_)
        simp only [p7, q7, hsz, if_true]
        have hr := hx (rd_T25 x w) (by unfold rd_T25; exact getD_mem _ _ _ (by omega))
        exact fin _ i7 h7 hr.2.1.1 hr.2.1.2 hi7
    · simp only [c, if_false, hsz, if_true]
      exact fin fr i5 h5 p2 (by omega) hi5
theorem draw_tasks (l : List Int) (hl : l.length ≤ 1048576) : EvP (fun k => spec_DrawRightTasks.f k l) (fun r => (∀ t, t ∈ r.1 → rightT t) ∧ r.1.length ≤ 15 ∧ 0 ≤ r.2 ∧ r.2 ≤ 15) := by
  unfold spec_DrawRightTasks.f
  refine evp_bind (l01New l hl) (fun x hx => ?_)
  obtain ⟨b, i, h⟩ := x
  obtain ⟨rfl, hi⟩ := hx
  simp only at hi ⊢
  obtain ⟨v, hv, v0, v1⟩ := draw_size b hl
  refine evp_bind (Q1 := fun r => (∀ t, t ∈ r.1 → rightT t) ∧ r.1.length ≤ 15 ∧ At b r.2.1) ?_ (fun x hx => ?_)
  · unfold spec_l16DrawRight.f
    simp only [hv, Option.bind_some, w64 (x := 2 + v) (show -9223372036854775808 ≤ 2 + v by omega) (by omega)]
    refine below_then b i h (2 + v) hl hi (by omega) (by omega) (fun m i1 h1 p1 q1 hi1 => ?_)
    obtain ⟨n, rfl⟩ : ∃ n : Nat, m = (n : Int) := ⟨m.toNat, by omega⟩
    refine evp_mono (draw_loop b hl n [] i1 h1 (by simp; omega) hi1 (fun t ht => absurd ht (by simp))) (fun r hr => ⟨hr.1, by have := hr.2.1; simp at this; omega, hr.2.2⟩)
  · obtain ⟨ts, i1, h1⟩ := x
    obtain ⟨hx1, hx2, hx3⟩ := hx
    simp only at hx1 hx2 hx3 ⊢
    refine below_then b i1 h1 16 hl hx3 (by omega) (by omega) (fun w i2 h2 p2 q2 hi2 => ?_)
    exact evp_now _ ⟨hx1, hx2, p2, by show w ≤ 15; omega⟩
end Go.Proofs.Ytoalolbifakpiaa.Pure

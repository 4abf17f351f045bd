/- Trains that are drawn: they are right. -/
import Derived.Test.YtklikbjlfaednaaH2
import Derived.Test.YtklikbjlfaednaaF
namespace Go.Proofs.Ytklikbjlfaednaa.Pure
open Go.RowKit Go.Proofs.Ytklikbjlfaednaa.P Go.Proofs.YtklikbjlfaednaaW.PrintWords Go.Proofs.YtklikbjlfaednaaW.PrintLast
set_option linter.unusedVariables false

theorem pick_int (b : List Int) (i h : Int) (l : List Int) (hb : b.length ≤ 1048576) (hi : At b i) (h0 : 1 ≤ l.length) (h1 : l.length ≤ 1000) : ∃ v i' h', spec_l01PickInt.f b i h l = some (v, i', h') ∧ v ∈ l ∧ At b i' := by
  obtain ⟨v, i', h', e, hv, hi'⟩ := l01Below b i h l.length hb hi (by omega) (by omega)
  obtain ⟨n, rfl⟩ : ∃ n : Nat, v = (n : Int) := ⟨v.toNat, by omega⟩
  refine ⟨rd l n, i', h', ?_, ?_, hi'⟩
  · unfold spec_l01PickInt.f
    rw [e]
    simp only [Option.bind_some]
    rw [if_pos hv.1, if_pos hv.2]
  · unfold rd
    rw [Int.toNat_natCast]
    exact getD_mem 0 l n (by omega)
theorem once (b : List Int) (i h n : Int) (hb : b.length ≤ 1048576) (hi : At b i) (hn : 1 ≤ n) (hn2 : n ≤ 1000) : ∃ v i' h', spec_l01Once.f b i h n = some (v, i', h') ∧ At b i' := by
  obtain ⟨v, i', h', e, hv, hi'⟩ := l01Below b i h n hb hi hn (by omega)
  refine ⟨v == 0, i', h', ?_, hi'⟩
  unfold spec_l01Once.f
  rw [e]
  rfl
theorem draw_sales (b : List Int) (i h n p : Int) (hb : b.length ≤ 1048576) (hi : At b i) (hn : 1 ≤ n ∧ n ≤ 1000) (hp : 1 ≤ p ∧ p ≤ 11) : EvP (fun k => spec_l14DrawSales.f k b i h n p) (fun r => At b r.2.1) := by
  unfold spec_l14DrawSales.f
  obtain ⟨c, i', h', e, hc, hi'⟩ := l01Below b i h n hb hi hn.1 (by omega)
  rw [e]
  simp only [Option.bind_some]
  obtain ⟨c, rfl⟩ : ∃ m : Nat, c = (m : Int) := ⟨c.toNat, by omega⟩
  have key : ∀ c : Nat, c ≤ 1000 → ∀ (acc : List S56) (i h : Int), acc.length + c ≤ 2000 → At b i → EvP (fun k => spec_l14DrawSales.l0 k p acc (c : Int) b i h) (fun r => At b r.2.1) := by
    intro c
    induction c with
    | zero =>
      intro _ acc i h _ hi
      exact ⟨(acc, i, h), ev_some (fun k => by simp [spec_l14DrawSales.l0]), hi⟩
    | succ c ih =>
      intro hc acc i h ha hi
      obtain ⟨on, i1, h1, e1, hv1, hi1⟩ := l01Below b i h p hb hi hp.1 (by omega)
      obtain ⟨q, i2, h2, e2, hv2, hi2⟩ := l01Below b i1 h1 4 hb hi1 (by omega) (by omega)
      obtain ⟨kd, i3, h3, e3, hv3, hi3⟩ := pick_int b i2 h2 [0, 0, 0, 1, 0, 0, 1, wrap64 (q - 1)] hb hi2 (by simp) (by simp)
      obtain ⟨id, i4, h4, e4, hv4, hi4⟩ := l01Below b i3 h3 14 hb hi3 (by omega) (by omega)
      have hw : wrap64 (p - on) = p - on := w64 (by omega) (by omega)
      have hwc : wrap64 (((c + 1 : Nat) : Int) - 1) = (c : Int) := by rw [w64 (by omega) (by omega)]; omega
      obtain ⟨le, i5, h5, e5, hv5, hi5⟩ := l01Below b i4 h4 (p - on) hb hi4 (by clear hw hwc; omega) (by clear hw hwc; omega)
      obtain ⟨oc, i6, h6, e6, hi6⟩ := once b i5 h5 30 hb hi5 (by omega) (by omega)
      have f1 : ((c + 1 : Nat) : Int) > 0 := by clear hw hwc; omega
      have f2 : acc.length < 4398046511104 := by clear hw hwc; omega
      cases oc with
      | true =>
        obtain ⟨of, i7, h7, e7, hv7, hi7⟩ := pick_int b i6 h6 [on, wrap64 (p + 1), -1] hb hi6 (by simp) (by simp)
        refine evp_at (ih (by clear hw hwc; omega) (acc ++ [⟨kd, wrap64 (1 + id), on, of⟩]) i7 h7 (by rw [List.length_append, List.length_singleton]; clear hw hwc; omega) hi7) (fun k => ?_)
        simp only [spec_l14DrawSales.l0, if_pos f1, e1, e2, e3, e4, hw, e5, e6, Option.bind_some, if_true, e7, if_pos f2, hwc]
      | false =>
        refine evp_at (ih (by clear hw hwc; omega) (acc ++ [⟨kd, wrap64 (1 + id), on, wrap64 (wrap64 (on + 1) + le)⟩]) i6 h6 (by rw [List.length_append, List.length_singleton]; clear hw hwc; omega) hi6) (fun k => ?_)
        simp only [spec_l14DrawSales.l0, if_pos f1, e1, e2, e3, e4, hw, e5, e6, Option.bind_some, Bool.false_eq_true, if_false, if_pos f2, hwc]
  exact key c (by omega) [] i' h' (by simp; omega) hi'
theorem size_le (l : List Int) (m : Int) (hl : l.length ≤ 1048576) (h0 : 0 ≤ m) (hm : m ≤ 100) : ∃ v, spec_l01Size.f l m = some v ∧ 0 ≤ v ∧ v ≤ 100 := by
  unfold spec_l01Size.f
  have e1 : wrap64 ((l.length : Int) / 16) = (l.length : Int) / 16 := w64 (by omega) (by omega)
  have e2 : wrap64 (2 + (l.length : Int) / 16) = 2 + (l.length : Int) / 16 := w64 (by omega) (by omega)
  rw [e1, e2]
  clear e1 e2
  split
  · exact ⟨m, rfl, h0, hm⟩
  · exact ⟨_, rfl, by omega, by omega⟩
theorem empty_train {a b : Int} (ha : 1 ≤ a ∧ a ≤ 60) (hb : 1 ≤ b ∧ b ≤ 11) : TrainP a b [] := ⟨ha, hb, by simp, fun o ho => by simp at ho, List.Pairwise.nil⟩
theorem draw_right (b : List Int) (i h : Int) (l : List Int) (hb : b.length ≤ 1048576) (hl : l.length ≤ 1048576) (hi : At b i) : EvP (fun k => spec_l14DrawRight.f k b i h l) (fun r => TrainP r.1 r.2.1 r.2.2.1 ∧ At b r.2.2.2.1) := by
  unfold spec_l14DrawRight.f
  obtain ⟨s, i1, h1, e1, hv1, hi1⟩ := l01Below b i h 4 hb hi (by omega) (by omega)
  obtain ⟨p, i2, h2, e2, hv2, hi2⟩ := l01Below b i1 h1 6 hb hi1 (by omega) (by omega)
  obtain ⟨z, e3, hz0, hz1⟩ := size_le l 16 hl (by omega) (by omega)
  rw [e1]
  simp only [Option.bind_some, e2, e3]
  have w1 : wrap64 (2 + z) = 2 + z := w64 (by omega) (by omega)
  have w2 : wrap64 (1 + p) = 1 + p := w64 (by omega) (by omega)
  have w3 : wrap64 (1 + s) = 1 + s := w64 (by omega) (by omega)
  rw [w1, w2, w3]
  clear w1 w2 w3
  have hE : TrainP (1 + s) (1 + p) [] := empty_train (by omega) (by omega)
  refine evp_bind (draw_sales b i2 h2 (2 + z) (1 + p) hb hi2 (by omega) (by omega)) (fun r hr => ?_)
  refine evp_bind (evp_of (spec_play (1 + s) (1 + p) [] r.1 (by simp)) (Q := fun q => TrainP q.1 q.2.1 q.2.2.1) (play_train hE r.1)) (fun q hq => ?_)
  exact evp_now _ ⟨hq, hr⟩
theorem draw_train (l : List Int) (hl : l.length ≤ 1048576) : EvP (fun k => spec_DrawRightTrain.f k l) (fun r => TrainP r.1 r.2.1 r.2.2.1) := by
  unfold spec_DrawRightTrain.f
  refine evp_bind (l01New l hl) (fun c hc => ?_)
  obtain ⟨c1, c2, c3⟩ := c
  obtain ⟨rfl, hi⟩ := hc
  refine evp_bind (draw_right c1 c2 c3 c1 hl hl hi) (fun q hq => ?_)
  obtain ⟨z, e3, hz0, hz1⟩ := size_le c1 20 hl (by omega) (by omega)
  simp only [e3, Option.bind_some]
  have w1 : wrap64 (2 + z) = 2 + z := w64 (by omega) (by omega)
  rw [w1]
  clear w1
  refine evp_bind (draw_sales c1 q.2.2.2.1 q.2.2.2.2 (2 + z) q.2.1 hl hq.2 (by omega) hq.1.pieces) (fun s hs => ?_)
  exact evp_now _ hq.1
end Go.Proofs.Ytklikbjlfaednaa.Pure

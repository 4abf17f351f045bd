/- The text of a journey: program and reference write the same. -/
import Derived.Test.YtdpjoblnjjkbfaaDoorW1
import Derived.Test.YtdpjoblnjjkbfaaDoorW2
namespace Go.Proofs.YtdpjoblnjjkbfaaDoor.Pure
open Go.RowKit Go.Proofs.YtdpjoblnjjkbfaaDoor.P Go.Proofs.YtdpjoblnjjkbfaaDoorW.PrintWords Go.Proofs.YtdpjoblnjjkbfaaDoorW.PrintLast

/-- A leg's text; the text of the first legs. -/
def legT (l : List S46) (x : S48) : ByteArray := ((((rd_T46 l x.f0).f0 ++ (⟨#[32]⟩ : ByteArray)) ++ tt (cl l x.f0 x.f1).f2) ++ (⟨#[45]⟩ : ByteArray)) ++ tt (cl l x.f0 x.f2).f1
def textTo (l : List S46) (ls : List S48) : Nat → ByteArray
  | 0 => ⟨#[]⟩
  | i + 1 => (if i = 0 then textTo l ls i else textTo l ls i ++ (⟨#[32, 47, 32]⟩ : ByteArray)) ++ legT l (ls.getD i z48)
def jText (l : List S46) (ls : List S48) (ch : Int) : ByteArray := if legsB l ls ch = true then textTo l ls ls.length else ⟨#[]⟩
theorem one32 : (⟨#[32]⟩ : ByteArray).size = 1 := rfl
theorem one45 : (⟨#[45]⟩ : ByteArray).size = 1 := rfl
theorem three : (⟨#[32, 47, 32]⟩ : ByteArray).size = 3 := rfl
theorem legs_all {l : List S46} {ls : List S48} {ch : Int} (h : legsB l ls ch = true) : tableB l = true ∧ (0 ≤ ch ∧ ch ≤ 60) ∧ ls.length ≤ 5 ∧ ∀ i, i < ls.length → legB l ls ch i = true := by
  unfold legsB at h
  rw [Bool.and_eq_true, Bool.and_eq_true, Bool.and_eq_true, inB_iff, decide_eq_true_eq, List.all_eq_true] at h
  exact ⟨h.1, h.2.1, h.2.2.1, fun i hi => h.2.2.2 i (List.mem_range.2 hi)⟩
section
variable {l : List S46}
theorem name_12 (hT : tableB l = true) {x : S48} (hx : legIn l x = true) : (rd_T46 l x.f0).f0.size ≤ 12 := by
  rw [legIn_iff] at hx
  have := trip_of hT (rd46_mem (l := l) (t := x.f0) (by omega) (by omega))
  simp only [tripB, nameB, Bool.and_eq_true] at this
  exact_mod_cast (inB_iff.1 this.1.1.2).2
theorem dep_ok (hT : tableB l = true) {x : S48} (hx : legIn l x = true) : (0 ≤ (cl l x.f0 x.f1).f2 ∧ (cl l x.f0 x.f1).f2 ≤ 100000) ∧ 0 ≤ (cl l x.f0 x.f2).f1 ∧ (cl l x.f0 x.f2).f1 ≤ 100000 := by
  rw [legIn_iff] at hx
  have a := cl_ok hT (t := x.f0) (j := x.f1) (by omega) (by omega)
  have b := cl_ok hT (t := x.f0) (j := x.f2) (by omega) (by omega)
  omega
theorem legT_size (hT : tableB l = true) {x : S48} (hx : legIn l x = true) : (legT l x).size ≤ 4100 := by
  have a := name_12 hT hx
  obtain ⟨⟨b1, b2⟩, c1, c2⟩ := dep_ok hT hx
  have b := tt_size b1 b2
  have c := tt_size c1 c2
  simp only [legT, ByteArray.size_append, one32, one45]
  omega
variable {ls : List S48} {ch : Int}
theorem text_size (h : legsB l ls ch = true) : ∀ i, i ≤ ls.length → (textTo l ls i).size ≤ i * 5000
  | 0, _ => by show (⟨#[]⟩ : ByteArray).size ≤ 0; exact Nat.le_refl 0
  | i + 1, hi => by
    have ih := text_size h i (by omega)
    have hl := legT_size (legs_all h).1 (legB_in ((legs_all h).2.2.2 i (by omega)))
    unfold textTo
    split <;> simp only [ByteArray.size_append, three] <;> omega
theorem impl_text (hF : Fit l) (ls : List S48) (ch : Int) : Ev (fun k => impl_JourneyText.f k l ls ch) (jText l ls ch) := by
  refine Ev.bind (impl_legs l hF ls ch) ?_
  unfold jText
  cases hL : legsB l ls ch with
  | false => exact Ev.now _
  | true =>
    simp only [if_true]
    obtain ⟨hT, hc, hn, hall⟩ := legs_all hL
    have key : ∀ i, i ≤ ls.length → Ev (fun k => impl_JourneyText.l0 k l (textTo l ls i) ls ls.length i) (textTo l ls ls.length) := by
      refine down ls.length ?_ ?_
      · exact ev_some (fun k => by simp [impl_JourneyText.l0])
      · intro i hi ih
        have hx := legB_in (hall i hi)
        have sz := text_size hL i (by omega)
        have nm := name_12 hT hx
        obtain ⟨⟨b1, b2⟩, c1, c2⟩ := dep_ok hT hx
        have sb := tt_size b1 b2
        have sc := tt_size c1 c2
        have hx' := legIn_iff.1 hx
        have go : ∀ acc : ByteArray, acc.size ≤ 100000 → acc ++ legT l (ls.getD i z48) = textTo l ls (i + 1) → Ev (fun k => impl_JourneyText.j1 k l acc ls ls.length i (ls.getD i z48).f0 (ls.getD i z48).f1 (ls.getD i z48).f2) (textTo l ls ls.length) := by
          intro acc ha he
          refine ev_at ih (fun k => ?_)
          simp only [impl_JourneyText.j1]
          rw [leaves_at _ _ hx, arrives_at _ _ hx, Option.bind_some, impl_time b1 b2, Option.bind_some, Option.bind_some, impl_time c1 c2, Option.bind_some]
          rw [if_pos (by omega), if_pos (by omega), if_pos (by omega), if_pos (by simp only [ByteArray.size_append, one32]; omega), if_pos (by simp only [ByteArray.size_append, one32]; omega), if_pos (by simp only [ByteArray.size_append, one32, one45]; omega), if_pos (by simp only [ByteArray.size_append, one32, one45]; omega), w64s hi (by omega)]
          show impl_JourneyText.l0 k l (acc ++ legT l (ls.getD i z48)) ls ls.length ((i + 1 : Nat) : Int) = _
          rw [he]
        by_cases c : i = 0
        · subst c
          refine ev_at (go (textTo l ls 0) (by omega) rfl) (fun k => ?_)
          simp only [impl_JourneyText.l0]
          rw [if_pos (by omega), if_pos (by omega), if_pos (by omega), if_neg (by omega)]
          rfl
        · refine ev_at (go (textTo l ls i ++ (⟨#[32, 47, 32]⟩ : ByteArray)) (by rw [ByteArray.size_append, three]; omega) (by rw [textTo, if_neg c])) (fun k => ?_)
          simp only [impl_JourneyText.l0]
          rw [if_pos (by omega), if_pos (by omega), if_pos (by omega), if_pos (by omega), if_pos (by omega)]
          rfl
    exact key 0 (Nat.zero_le _)
theorem spec_text (hF : Fit l) (ls : List S48) (ch : Int) : Ev (fun k => spec_JourneyText.f k l ls ch) (jText l ls ch) := by
  refine Ev.bind (spec_legs l hF ls ch) ?_
  unfold jText
  cases hL : legsB l ls ch with
  | false => exact Ev.now _
  | true =>
    simp only [if_true]
    obtain ⟨hT, hc, hn, hall⟩ := legs_all hL
    have key : ∀ i, i ≤ ls.length → Ev (fun k => spec_JourneyText.l0 k l ls (textTo l ls i) i) (textTo l ls ls.length) := by
      refine down ls.length ?_ ?_
      · exact ev_some (fun k => by simp [spec_JourneyText.l0])
      · intro i hi ih
        have hx := legB_in (hall i hi)
        have sz := text_size hL i (by omega)
        have nm := name_12 hT hx
        obtain ⟨⟨b1, b2⟩, c1, c2⟩ := dep_ok hT hx
        have sb := tt_size b1 b2
        have sc := tt_size c1 c2
        have hx' := legIn_iff.1 hx
        have tb := spec_time b1 b2
        have tc := spec_time c1 c2
        have e : ∀ acc : ByteArray, acc ++ legT l (ls.getD i z48) = ((((acc ++ (rd_T46 l (ls.getD i z48).f0).f0) ++ (⟨#[32]⟩ : ByteArray)) ++ tt (cl l (ls.getD i z48).f0 (ls.getD i z48).f1).f2) ++ (⟨#[45]⟩ : ByteArray)) ++ tt (cl l (ls.getD i z48).f0 (ls.getD i z48).f2).f1 := by
          intro acc; simp only [legT, ByteArray.append_assoc]
        have fin : ∀ acc : ByteArray, acc.size ≤ 100000 → acc ++ legT l (ls.getD i z48) = textTo l ls (i + 1) → Ev (fun k => (spec_TimeText.f k (cl l (ls.getD i z48).f0 (ls.getD i z48).f1).f2).bind fun t1 => (if (((acc ++ (rd_T46 l (ls.getD i z48).f0).f0) ++ (⟨#[32]⟩ : ByteArray)).size + t1.size ≤ 9223372036854775807) then (if ((((acc ++ (rd_T46 l (ls.getD i z48).f0).f0) ++ (⟨#[32]⟩ : ByteArray)) ++ t1).size + 1 ≤ 9223372036854775807) then ((spec_TimeText.f k (cl l (ls.getD i z48).f0 (ls.getD i z48).f2).f1).bind fun t2 => (if (((((acc ++ (rd_T46 l (ls.getD i z48).f0).f0) ++ (⟨#[32]⟩ : ByteArray)) ++ t1) ++ (⟨#[45]⟩ : ByteArray)).size + t2.size ≤ 9223372036854775807) then spec_JourneyText.l0 k l ls (((((acc ++ (rd_T46 l (ls.getD i z48).f0).f0) ++ (⟨#[32]⟩ : ByteArray)) ++ t1) ++ (⟨#[45]⟩ : ByteArray)) ++ t2) ((i + 1 : Nat) : Int) else none)) else none) else none)) (textTo l ls ls.length) := by
          intro acc ha he
          rw [e] at he
          refine Ev.bind tb ?_
          have q1 : ((acc ++ (rd_T46 l (ls.getD i z48).f0).f0) ++ (⟨#[32]⟩ : ByteArray)).size + (tt (cl l (ls.getD i z48).f0 (ls.getD i z48).f1).f2).size ≤ 9223372036854775807 := by simp only [ByteArray.size_append, one32]; omega
          have q2 : (((acc ++ (rd_T46 l (ls.getD i z48).f0).f0) ++ (⟨#[32]⟩ : ByteArray)) ++ tt (cl l (ls.getD i z48).f0 (ls.getD i z48).f1).f2).size + 1 ≤ 9223372036854775807 := by simp only [ByteArray.size_append, one32]; omega
          simp only [q1, q2, if_true]
          refine Ev.bind tc ?_
          have q3 : ((((acc ++ (rd_T46 l (ls.getD i z48).f0).f0) ++ (⟨#[32]⟩ : ByteArray)) ++ tt (cl l (ls.getD i z48).f0 (ls.getD i z48).f1).f2) ++ (⟨#[45]⟩ : ByteArray)).size + (tt (cl l (ls.getD i z48).f0 (ls.getD i z48).f2).f1).size ≤ 9223372036854775807 := by simp only [ByteArray.size_append, one32, one45]; omega
          simp only [q3, if_true]
          rw [he]
          exact ih
        by_cases c : i = 0
        · subst c
          refine Ev.step (fun k => ?_) (fin (textTo l ls 0) (by omega) rfl)
          simp only [spec_JourneyText.l0]
          rw [rd48, if_pos (by omega), if_pos (by omega), if_pos (by omega), if_pos (by omega), if_neg (by omega), if_pos (by omega), if_pos (by rw [ByteArray.size_append]; omega), if_pos (by omega), if_pos (by omega), w64s hi (by omega)]
          simp only [show 0 ≤ (ls.getD 0 z48).f2 by omega, show (ls.getD 0 z48).f2 < ((rd_T46 l (ls.getD 0 z48).f0).f1.length : Int) by omega, if_true]
          rfl
        · refine Ev.step (fun k => ?_) (fin (textTo l ls i ++ (⟨#[32, 47, 32]⟩ : ByteArray)) (by rw [ByteArray.size_append, three]; omega) (by rw [textTo, if_neg c]))
          simp only [spec_JourneyText.l0]
          rw [rd48, if_pos (by omega), if_pos (by omega), if_pos (by omega), if_pos (by omega), if_pos (by omega), if_pos (by omega), if_pos (by simp only [ByteArray.size_append, three]; omega), if_pos (by simp only [ByteArray.size_append, three]; omega), if_pos (by omega), if_pos (by omega), w64s hi (by omega)]
          simp only [show 0 ≤ (ls.getD i z48).f2 by omega, show (ls.getD i z48).f2 < ((rd_T46 l (ls.getD i z48).f0).f1.length : Int) by omega, if_true]
          rfl
    exact key 0 (Nat.zero_le _)
end
end Go.Proofs.YtdpjoblnjjkbfaaDoor.Pure

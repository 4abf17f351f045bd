/- What the draws tell: numbers below a bound, the cursor within its bytes. -/
import Derived.Test.YtnojpcmaalbdhaaDoorE
namespace Go.Proofs.YtnojpcmaalbdhaaDoor.Pure
open Go.RowKit Go.Proofs.YtnojpcmaalbdhaaDoor.P Go.Proofs.YtnojpcmaalbdhaaDoorW.PrintWords Go.Proofs.YtnojpcmaalbdhaaDoorW.PrintLast

/-- From some round on it tells something that meets Q. -/
def EvP {α : Type} (g : Nat → Option α) (Q : α → Prop) : Prop := ∃ r, Ev g r ∧ Q r
theorem evp_of {α : Type} {g : Nat → Option α} {Q : α → Prop} {r : α} (h : Ev g r) (q : Q r) : EvP g Q := ⟨r, h, q⟩
theorem evp_now {α : Type} {Q : α → Prop} (r : α) (q : Q r) : EvP (fun _ => some r) Q := ⟨r, Ev.now r, q⟩
theorem evp_bind {α β : Type} {g : Nat → Option α} {f : Nat → α → Option β} {Q1 : α → Prop} {Q : β → Prop} (h : EvP g Q1) (k : ∀ a, Q1 a → EvP (fun n => f n a) Q) : EvP (fun n => (g n).bind (f n)) Q := by
  obtain ⟨a, ha, qa⟩ := h
  obtain ⟨r, hr, qr⟩ := k a qa
  exact ⟨r, Ev.bind ha hr, qr⟩
theorem evp_at {α : Type} {g f : Nat → Option α} {Q : α → Prop} (k : EvP f Q) (h : ∀ k, g (k + 1) = f k) : EvP g Q := by
  obtain ⟨r, hr, q⟩ := k
  exact ⟨r, ev_at hr h, q⟩
theorem evp_mono {α : Type} {g : Nat → Option α} {Q Q' : α → Prop} (h : EvP g Q) (k : ∀ a, Q a → Q' a) : EvP g Q' := by
  obtain ⟨r, hr, q⟩ := h
  exact ⟨r, hr, k r q⟩
theorem evp_true {g : Nat → Option Bool} (h : EvP g (fun b => b = true)) : Ev g true := by
  obtain ⟨r, hr, rfl⟩ := h
  exact hr

theorem and255 (x : Int) : 0 ≤ Go.bits .and .i64 x 255 ∧ Go.bits .and .i64 x 255 ≤ 255 := by
  have e : Go.bits .and .i64 x 255 = IntKind.i64.wrap (((BitVec.ofInt IntKind.i64.bits x &&& BitVec.ofInt IntKind.i64.bits 255).toNat : Nat) : Int) := rfl
  rw [e]
  have h : (BitVec.ofInt IntKind.i64.bits x &&& BitVec.ofInt IntKind.i64.bits 255).toNat ≤ 255 := by
    rw [BitVec.toNat_and]
    exact Nat.le_trans Nat.and_le_right (by decide)
  generalize (BitVec.ofInt IntKind.i64.bits x &&& BitVec.ofInt IntKind.i64.bits 255).toNat = n at h
  have e2 : IntKind.i64.wrap ((n : Nat) : Int) = wrap64 (n : Int) := by simp only [IntKind.wrap_i64, wrap64]
  rw [e2, w64 (by omega) (by omega)]
  omega

/-- The cursor stands within its bytes. -/
def At (b : List Int) (i : Int) : Prop := 0 ≤ i ∧ i ≤ b.length

theorem l01New (l : List Int) (hl : l.length ≤ 1048576) : EvP (fun k => spec_l01New.f k l) (fun r => r.1 = l ∧ At r.1 r.2.1) := by
  have key : ∀ i, i ≤ l.length → ∀ h : Int, EvP (fun k => spec_l01New.l0 k l h i) (fun r => r.1 = l ∧ At r.1 r.2.1) := by
    have fin : ∀ h : Int, At l 0 := fun h => ⟨Int.le_refl _, by omega⟩
    refine down l.length (fun h => ?_) (fun i hi ih h => ?_)
    · exact evp_of (ev_some (r := (l, 0, h)) (fun k => by simp [spec_l01New.l0])) ⟨rfl, fin h⟩
    · by_cases h4 : (i : Int) < 4000
      · exact evp_at (ih _) (fun k => by simp [spec_l01New.l0, hi, h4, w64s hi (by omega)]; rfl)
      · exact evp_of (ev_some (r := (l, 0, h)) (fun k => by simp [spec_l01New.l0, hi, h4])) ⟨rfl, fin h⟩
  exact key 0 (Nat.zero_le _) _

theorem l01Byte (b : List Int) (i h : Int) (hb : b.length ≤ 1048576) (hi : At b i) : ∃ v i' h', spec_l01Byte.f b i h = some (v, i', h') ∧ (0 ≤ v ∧ v ≤ 255) ∧ At b i' := by
  unfold spec_l01Byte.f
  unfold At at *
  by_cases hlt : i < (b.length : Int)
  · simp only [hlt, if_true, hi.1]
    exact ⟨_, _, _, rfl, and255 _, by rw [w64 (by omega) (by omega)]; omega⟩
  · simp only [hlt, if_false]
    exact ⟨_, _, _, rfl, and255 _, hi⟩

theorem l01Below (b : List Int) (i h n : Int) (hb : b.length ≤ 1048576) (hi : At b i) (hn : 1 ≤ n) (hn2 : n ≤ 1000000) : ∃ v i' h', spec_l01Below.f b i h n = some (v, i', h') ∧ (0 ≤ v ∧ v < n) ∧ At b i' := by
  unfold spec_l01Below.f
  simp only [show ¬ n ≤ 0 by omega, if_false, show ¬ n = 0 by omega]
  obtain ⟨v, i1, h1, e1, hv, hi1⟩ := l01Byte b i h hb hi
  obtain ⟨v2, i2, h2, e2, hv2, hi2⟩ := l01Byte b i1 h1 hb hi1
  obtain ⟨v3, i3, h3, e3, hv3, hi3⟩ := l01Byte b i2 h2 hb hi2
  by_cases h256 : n ≤ 256
  · simp only [h256, if_true, e1, Option.bind_some]
    refine ⟨_, _, _, rfl, ?_, hi1⟩
    rw [Int.tmod_eq_emod_of_nonneg hv.1]
    exact ⟨Int.emod_nonneg _ (by omega), Int.emod_lt_of_pos _ (by omega)⟩
  · simp only [h256, if_false, e1, e2, e3, Option.bind_some]
    refine ⟨_, _, _, rfl, ?_, hi3⟩
    rw [w64 (x := v * 65536) (by omega) (by omega), w64 (x := v2 * 256) (by omega) (by omega), w64 (x := v * 65536 + v2 * 256) (by omega) (by omega), w64 (x := v * 65536 + v2 * 256 + v3) (by omega) (by omega)]
    rw [Int.tmod_eq_emod_of_nonneg (by omega)]
    exact ⟨Int.emod_nonneg _ (by omega), Int.emod_lt_of_pos _ (by omega)⟩

/-- The same, as a step of a chain. -/
theorem below_then {α : Type} {Q : α → Prop} (b : List Int) (i h n : Int) (hb : b.length ≤ 1048576) (hi : At b i) (hn : 1 ≤ n) (hn2 : n ≤ 1000000) {f : Nat → Int × Int × Int → Option α}
    (k : ∀ v i' h', 0 ≤ v → v < n → At b i' → EvP (fun m => f m (v, i', h')) Q) : EvP (fun m => (spec_l01Below.f b i h n).bind (f m)) Q := by
  obtain ⟨v, i', h', e, hv, hi'⟩ := l01Below b i h n hb hi hn hn2
  rw [e]
  exact k v i' h' hv.1 hv.2 hi'

/-- A byte at a place, or what stands for it. -/
theorem at_byte (l : List Int) (hl : l.length ≤ 1048576) (hw : ∀ x, x ∈ l → (Lit.int .u8 x).wf = true) (i : Int) (h0 : 0 ≤ i) (h1 : i ≤ 1000) : ∃ v, laws_at.f l i = some v ∧ 0 ≤ v ∧ v ≤ 255 := by
  unfold laws_at.f
  by_cases h : i < (l.length : Int)
  · simp only [h, if_true, h0]
    refine ⟨_, rfl, ?_⟩
    have hm : rd l i ∈ l := getD_mem 0 l i.toNat (by omega)
    have := wf_u8 (hw _ hm)
    rw [w64 (by omega) (by omega)]
    exact this
  · simp only [h, if_false]
    refine ⟨_, rfl, ?_⟩
    rw [w64 (x := i * 11) (by omega) (by omega), w64 (x := (l.length : Int) * 3) (by omega) (by omega), w64 (x := i * 11 + (l.length : Int) * 3) (by omega) (by omega), Int.tmod_eq_emod_of_nonneg (by omega)]
    omega
theorem big_false {l : List Int} (h : ¬ (l.length : Int) > 1048576) : laws_big.f l = some false := by simp [laws_big.f]; omega
theorem big_true {l : List Int} (h : (l.length : Int) > 1048576) : laws_big.f l = some true := by simp [laws_big.f]; omega
end Go.Proofs.YtnojpcmaalbdhaaDoor.Pure

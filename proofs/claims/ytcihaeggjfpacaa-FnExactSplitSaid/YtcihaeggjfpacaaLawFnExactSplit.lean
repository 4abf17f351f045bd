/- The law FnExactSplit answers true for every input: the row, out of its pure statement and the contract of its function. -/
import Derived.Test.YtcihaeggjfpacaaRows
import Derived.Test.YtcihaeggjfpacaaPx42
import Derived.Test.YtcihaeggjfpacaaQFnExactSplit
import Derived.Test.YtcihaeggjfpacaaPureFnExactSplit
import Derived.WalkKit
import Derived.ProofKit
import Derived.OpenShut
import Derived.ShutString
import Derived.ChangeOld
import Derived.Below
import Derived.SizedLaws
namespace Go.Proofs.Ytcihaeggjfpacaa.fnExactSplit
open Go.ChangeShapes Go.WideShapes Go.ChangeAt Go.RowKit Go.Proofs.Ytcihaeggjfpacaa.Op Go.Proofs.Ytcihaeggjfpacaa.P Go.Proofs.YtcihaeggjfpacaaW.PrintWords
open Go.ChangeMaps (open_string shut_string)
theorem own : ownKnob Try.prog.godebug = none := by kernel_rfl
theorem laidOut : laidOutB Try.prog = true := by kernel_rfl
set_option maxRecDepth 100000 in
theorem lifted (os : Os) (started : os.Started) (H : Type) (enc : TypeId × Value → H) :
    ReturnsInHanded {} Try.checked os 11 .any (Rows.fnExactSplitSpec.pre6 enc Try.prog Try.f11 Rows.fnExactSplitRow.domain false) (Rows.fnExactSplitSpec.post enc Try.prog Try.f11 false true false false) := by
  refine returnsInHanded_of_change_sized (C := Try.checked) own started (by kernel_rfl) Try.func11
    (ChangeSpec.witness6 (enc := enc) (C := Try.checked) false ⟨#[], #[.agg #[.int .i64 0, .int .i64 0, .slice none 0 0, .int .i64 0], .slice none 0 0, .slice none 0 0, .int .i64 0], []⟩ 8 (by kernel_rfl) (by kernel_rfl) (by kernel_rfl) (by kernel_rfl)) ?_
  intro W base args ds gs before hval0 hW hcnd hsz0 _
  clear hsz0
  have hval : ∀ (j : Nat) t v, Try.f11.params[j]? = some t → args[j]? = some v → Value.okWide Try.prog W .any base t v := hval0
  have hW' := hW
  obtain ⟨p, q, hA0, hV, rfl, hfz, hnd⟩ := hW
  have hA : DataW.TrodAll enc Try.prog W 0 (fun _ => true) true Try.f11.params.toList args.toList ds p := hA0
  rw [Try.params11] at hA hval
  obtain ⟨v0, vs0, d0, ds0, p0, q0, hargs, rfl, rfl, h0, r0⟩ := trodAll_cons hA
  obtain ⟨v1, vs1, d1, ds1, p1, q1, rfl, rfl, rfl, h1, r1⟩ := trodAll_cons r0
  obtain ⟨v2, vs2, d2, ds2, p2, q2, rfl, rfl, rfl, h2, r2⟩ := trodAll_cons r1
  obtain ⟨v3, vs3, d3, ds3, p3, q3, rfl, rfl, rfl, h3, r3⟩ := trodAll_cons r2
  obtain ⟨rfl, rfl, rfl⟩ := trodAll_nil r3
  obtain rfl : args = #[v0, v1, v2, v3] := by cases args; simp_all
  obtain ⟨rfl, rfl⟩ := trodVars_none hV
  have lt0 : ∀ x ∈ p0, x.block < W.heap.size := by obtain ⟨m, hm⟩ := h0; exact DataW.trod_lt m _ _ _ hm
  obtain ⟨cs0, rfl, _⟩ := okWide_struct Try.underlying31 (hval 0 31 v0 rfl rfl)
  obtain ⟨y0, hK0, hq0⟩ : ∃ y : S31, k31.K W y cs0.toList ∧ Q31 y := by obtain ⟨fuel, hf⟩ := h0; exact o31.out hf
  obtain ⟨A0_2, c0_2, hcs0, hc0_2, hr0_2⟩ := k31_open hK0
  obtain rfl : cs0 = #[.int .i64 y0.f0, .int .i64 y0.f1, .slice A0_2 y0.f2.length c0_2, .int .i64 y0.f3] := by have z := congrArg List.toArray hcs0; simpa using z
  have lt1 : ∀ x ∈ p1, x.block < W.heap.size := by obtain ⟨m, hm⟩ := h1; exact DataW.trod_lt m _ _ _ hm
  obtain ⟨a1, len1, cap1, rfl⟩ := okWide_slice Try.underlying29 (hval 1 29 v1 rfl rfl)
  obtain ⟨y1, hK1, hq1⟩ : ∃ y : List Int, ((Kd.slice 3 (Kd.int .i64))).K W y [.slice a1 len1 cap1] ∧ (y.length ≤ maxLen ∧ ∀ e0_, e0_ ∈ y → (Lit.int .i64 e0_).wf = true) := by obtain ⟨fuel, hf⟩ := h1; exact (show Opens Try.prog 29 ((Kd.slice 3 (Kd.int .i64))) (fun y : List Int => (y.length ≤ maxLen ∧ ∀ e0_, e0_ ∈ y → (Lit.int .i64 e0_).wf = true)) from (opens_slice Try.underlying29 (by kernel_rfl) (opens_int Try.underlying3 (by kernel_rfl)))).out hf
  obtain ⟨A1, c1, hcs1, hc1, hr1⟩ := hK1
  simp only [List.cons.injEq, Value.slice.injEq, and_true] at hcs1
  obtain ⟨rfl, rfl, rfl⟩ := hcs1
  have lt2 : ∀ x ∈ p2, x.block < W.heap.size := by obtain ⟨m, hm⟩ := h2; exact DataW.trod_lt m _ _ _ hm
  obtain ⟨a2, len2, cap2, rfl⟩ := okWide_slice Try.underlying22 (hval 2 22 v2 rfl rfl)
  obtain ⟨y2, hK2, hq2⟩ : ∃ y : List (S60), ((Kd.slice 60 k60)).K W y [.slice a2 len2 cap2] ∧ (y.length ≤ maxLen ∧ ∀ e0_, e0_ ∈ y → Q60 e0_) := by obtain ⟨fuel, hf⟩ := h2; exact (show Opens Try.prog 22 ((Kd.slice 60 k60)) (fun y : List (S60) => (y.length ≤ maxLen ∧ ∀ e0_, e0_ ∈ y → Q60 e0_)) from (opens_slice Try.underlying22 (by kernel_rfl) o60)).out hf
  obtain ⟨A2, c2, hcs2, hc2, hr2⟩ := hK2
  simp only [List.cons.injEq, Value.slice.injEq, and_true] at hcs2
  obtain ⟨rfl, rfl, rfl⟩ := hcs2
  obtain ⟨y3, rfl, rfl, rfl, hq3⟩ := open_int Try.underlying3 (hval 3 3 v3 rfl rfl) h3
  clear hA0 hval0
  obtain ⟨k, hk⟩ := Pure.FnExactSplit y0 y1 y2 y3 hq0 hq1 hq2 hq3
  refine (laws_FnExactSplit.calls k y0.f0 y0.f1 _ _ y0.f2 y0.f3 _ _ y1 _ _ y2 y3 true W hr0_2 hc0_2 hr1 hc1 hr2 hc2 ⟨rfl⟩ hk).mono ?_
  rintro e W' ⟨rfl, bel0⟩
  have bel : Below W.heap.size W W' := bel0
  exact ⟨_, rfl, _, _, _, [], _, [], hW', trodAll_mk1 (shut_bool Try.underlying4 _), (trodAll_cons_mk (Below.trod laidOut (by kernel_rfl) (of_decide_eq_true (by kernel_rfl)) h0 bel lt0) (trodAll_cons_mk (Below.trod laidOut (by kernel_rfl) (of_decide_eq_true (by kernel_rfl)) h1 bel lt1) (trodAll_cons_mk (Below.trod laidOut (by kernel_rfl) (of_decide_eq_true (by kernel_rfl)) h2 bel lt2) (trodAll_cons_mk (shut_int Try.underlying3 hq3) trodAll_mk0)))), rfl, bel.frame _, fun h => by cases h⟩
theorem over : Rows.fnExactSplitRow.holds Try.pinned (OpenSpec.ofChange Rows.fnExactSplitSpec) :=
  OpenClaim.holds_of_wide 11 Try.f11 rfl rfl rfl rfl rfl rfl rfl ⟨rfl, rfl, rfl, rfl, rfl⟩ rfl rfl rfl rfl rfl (by kernel_rfl) Try.func11 (by kernel_rfl)
    (of_decide_eq_true (by kernel_rfl)) (by unfold Func.isWrapper; first | (rw [if_pos (by decide +kernel)]; kernel_rfl) | (rw [if_neg (by decide +kernel)]; exact ⟨rfl, rfl⟩))
    (fun os started H enc _ => lifted os started H enc)
end Go.Proofs.Ytcihaeggjfpacaa.fnExactSplit
namespace Go.Proofs.Ytcihaeggjfpacaa
theorem fnExactSplit_holds : Rows.FnExactSplitSaid := fnExactSplit.over
#print axioms fnExactSplit_holds
end Go.Proofs.Ytcihaeggjfpacaa

/- The law FnExactPlaySales answers true for every input: the row, out of its pure statement and the contract of its function. -/
import Derived.Test.YtklikbjlfaednaaRows
import Derived.Test.YtklikbjlfaednaaPx42
import Derived.Test.YtklikbjlfaednaaQFnExactPlaySales
import Derived.Test.YtklikbjlfaednaaPureFnExactPlaySales
import Derived.WalkKit
import Derived.ProofKit
import Derived.OpenShut
import Derived.ShutString
import Derived.ChangeOld
import Derived.Below
import Derived.SizedLaws
namespace Go.Proofs.Ytklikbjlfaednaa.fnExactPlaySales
open Go.ChangeShapes Go.WideShapes Go.ChangeAt Go.RowKit Go.Proofs.Ytklikbjlfaednaa.Op Go.Proofs.Ytklikbjlfaednaa.P Go.Proofs.YtklikbjlfaednaaW.PrintWords
open Go.ChangeMaps (open_string shut_string)
theorem own : ownKnob Try.prog.godebug = none := by kernel_rfl
theorem laidOut : laidOutB Try.prog = true := by kernel_rfl
set_option maxRecDepth 100000 in
theorem lifted (os : Os) (started : os.Started) (H : Type) (enc : TypeId × Value → H) :
    ReturnsInHanded {} Try.checked os 11 .any (Rows.fnExactPlaySalesSpec.pre6 enc Try.prog Try.f11 Rows.fnExactPlaySalesRow.domain false) (Rows.fnExactPlaySalesSpec.post enc Try.prog Try.f11 false true false false) := by
  refine returnsInHanded_of_change_sized (C := Try.checked) own started (by kernel_rfl) Try.func11
    (ChangeSpec.witness6 (enc := enc) (C := Try.checked) false ⟨#[], #[.agg #[.int .i64 0, .int .i64 0, .slice none 0 0], .slice none 0 0], []⟩ 8 (by kernel_rfl) (by kernel_rfl) (by kernel_rfl) (by kernel_rfl)) ?_
  intro W base args ds gs before hval0 hW hcnd hsz0 _
  clear hsz0
  have hval : ∀ (j : Nat) t v, Try.f11.params[j]? = some t → args[j]? = some v → Value.okWide Try.prog W .any base t v := hval0
  have hW' := hW
  obtain ⟨p, q, hA0, hV, rfl, hfz, hnd⟩ := hW
  have hA : DataW.TrodAll enc Try.prog W 0 (fun _ => true) true Try.f11.params.toList args.toList ds p := hA0
  rw [Try.params11] at hA hval
  obtain ⟨v0, vs0, d0, ds0, p0, q0, hargs, rfl, rfl, h0, r0⟩ := trodAll_cons hA
  obtain ⟨v1, vs1, d1, ds1, p1, q1, rfl, rfl, rfl, h1, r1⟩ := trodAll_cons r0
  obtain ⟨rfl, rfl, rfl⟩ := trodAll_nil r1
  obtain rfl : args = #[v0, v1] := by cases args; simp_all
  obtain ⟨rfl, rfl⟩ := trodVars_none hV
  have lt0 : ∀ x ∈ p0, x.block < W.heap.size := by obtain ⟨m, hm⟩ := h0; exact DataW.trod_lt m _ _ _ hm
  obtain ⟨cs0, rfl, _⟩ := okWide_struct Try.underlying24 (hval 0 24 v0 rfl rfl)
  obtain ⟨y0, hK0, hq0⟩ : ∃ y : S24, k24.K W y cs0.toList ∧ Q24 y := by obtain ⟨fuel, hf⟩ := h0; exact o24.out hf
  obtain ⟨A0_2, c0_2, hcs0, hc0_2, hr0_2⟩ := k24_open hK0
  obtain rfl : cs0 = #[.int .i64 y0.f0, .int .i64 y0.f1, .slice A0_2 y0.f2.length c0_2] := by have z := congrArg List.toArray hcs0; simpa using z
  have lt1 : ∀ x ∈ p1, x.block < W.heap.size := by obtain ⟨m, hm⟩ := h1; exact DataW.trod_lt m _ _ _ hm
  obtain ⟨a1, len1, cap1, rfl⟩ := okWide_slice Try.underlying57 (hval 1 57 v1 rfl rfl)
  obtain ⟨y1, hK1, hq1⟩ : ∃ y : List (S86), ((Kd.slice 86 k86)).K W y [.slice a1 len1 cap1] ∧ (y.length ≤ maxLen ∧ ∀ e0_, e0_ ∈ y → Q86 e0_) := by obtain ⟨fuel, hf⟩ := h1; exact (show Opens Try.prog 57 ((Kd.slice 86 k86)) (fun y : List (S86) => (y.length ≤ maxLen ∧ ∀ e0_, e0_ ∈ y → Q86 e0_)) from (opens_slice Try.underlying57 (by kernel_rfl) o86)).out hf
  obtain ⟨A1, c1, hcs1, hc1, hr1⟩ := hK1
  simp only [List.cons.injEq, Value.slice.injEq, and_true] at hcs1
  obtain ⟨rfl, rfl, rfl⟩ := hcs1
  clear hA0 hval0
  obtain ⟨k, hk⟩ := Pure.FnExactPlaySales y0 y1 hq0 hq1
  refine (laws_FnExactPlaySales.calls k y0.f0 y0.f1 _ _ y0.f2 _ _ y1 true W hr0_2 hc0_2 hr1 hc1 ⟨rfl⟩ hk).mono ?_
  rintro e W' ⟨rfl, bel0⟩
  have bel : Below W.heap.size W W' := bel0
  exact ⟨_, rfl, _, _, _, [], _, [], hW', trodAll_mk1 (shut_bool Try.underlying4 _), (trodAll_cons_mk (Below.trod laidOut (by kernel_rfl) (of_decide_eq_true (by kernel_rfl)) h0 bel lt0) (trodAll_cons_mk (Below.trod laidOut (by kernel_rfl) (of_decide_eq_true (by kernel_rfl)) h1 bel lt1) trodAll_mk0)), rfl, bel.frame _, fun h => by cases h⟩
theorem over : Rows.fnExactPlaySalesRow.holds Try.pinned (OpenSpec.ofChange Rows.fnExactPlaySalesSpec) :=
  OpenClaim.holds_of_wide 11 Try.f11 rfl rfl rfl rfl rfl rfl rfl ⟨rfl, rfl, rfl, rfl, rfl⟩ rfl rfl rfl rfl rfl (by kernel_rfl) Try.func11 (by kernel_rfl)
    (of_decide_eq_true (by kernel_rfl)) (by unfold Func.isWrapper; first | (rw [if_pos (by decide +kernel)]; kernel_rfl) | (rw [if_neg (by decide +kernel)]; exact ⟨rfl, rfl⟩))
    (fun os started H enc _ => lifted os started H enc)
end Go.Proofs.Ytklikbjlfaednaa.fnExactPlaySales
namespace Go.Proofs.Ytklikbjlfaednaa
theorem fnExactPlaySales_holds : Rows.FnExactPlaySalesSaid := fnExactPlaySales.over
#print axioms fnExactPlaySales_holds
end Go.Proofs.Ytklikbjlfaednaa

/- Contracts of the functions of the program, each one with its plain Lean function; written by a program of the session out of the translation. -/
import Derived.Test.YtklikbjlfaednaaPx0
import Derived.Test.YtklikbjlfaednaaPx1
import Derived.Test.YtklikbjlfaednaaPx2
import Derived.Test.YtklikbjlfaednaaPx3
namespace Go.Proofs.Ytklikbjlfaednaa.P
open Go.RowKit Go.Proofs.YtklikbjlfaednaaW.PrintWords Go.Proofs.YtklikbjlfaednaaW.PrintLast Go.Proofs.YtklikbjlfaednaaW.PrintMore
attribute [local go_sem] max2_int min2_int max_two min_two max_three min_three max_four min_four   -- for this text's walks alone
set_option linter.unusedVariables false
set_option linter.unusedSimpArgs false

/-! ### impl_Spread: function 26, by hand -/

theorem hd_sp0_le (l : List S66) (s : Nat) : ∀ d p, impl_Spread.l0 l s d p ≤ d
  | 0, _ => Nat.le_refl _
  | d + 1, p => by
    unfold impl_Spread.l0
    split
    · omega
    · have := hd_sp0_le l s d (p + 1); omega
theorem hd_sp1_le (l : List S66) (p off : Nat) : ∀ n, (impl_Spread.l1 l p off n).2 ≤ off - p
  | 0 => Nat.zero_le _
  | n + 1 => by
    unfold impl_Spread.l1
    split
    · exact hd_sp0_le _ _ _ _
    · exact hd_sp1_le l p off n
theorem hd_sp1_lt (l : List S66) (p off : Nat) : ∀ n, (impl_Spread.l1 l p off n).1 ≤ n
  | 0 => Nat.zero_le _
  | n + 1 => by
    unfold impl_Spread.l1
    split
    · exact Nat.le_succ n
    · exact Nat.le_trans (hd_sp1_lt l p off n) (Nat.le_succ n)
theorem hd_info3s : (Try.prog.info? 3).map (fun i => (i.zero, i.size, i.bytes)) = some (some (.int .i64 0), 1, 8) := by kernel_rfl
theorem hd_row11s {n : Nat} {l : List S66} {xs : List Bool} {st : Nat} {b0 b1 b2 b3 b4 b5 b6 b7 b8 b9 b10 : Bool} (hHK : hd_HK n l xs l.length) (hs : st < n) (hb0 : xs.getD (st * 11 + 0) false = b0) (hb1 : xs.getD (st * 11 + 1) false = b1) (hb2 : xs.getD (st * 11 + 2) false = b2) (hb3 : xs.getD (st * 11 + 3) false = b3) (hb4 : xs.getD (st * 11 + 4) false = b4) (hb5 : xs.getD (st * 11 + 5) false = b5) (hb6 : xs.getD (st * 11 + 6) false = b6) (hb7 : xs.getD (st * 11 + 7) false = b7) (hb8 : xs.getD (st * 11 + 8) false = b8) (hb9 : xs.getD (st * 11 + 9) false = b9) (hb10 : xs.getD (st * 11 + 10) false = b10) : ∀ p, p < 11 → ([b0, b1, b2, b3, b4, b5, b6, b7, b8, b9, b10].getD p false) = l.any (impl_TrainOk.l4 st p) := by
  intro p hp
  have h := hHK.2 st p hs hp
  rw [List.take_length] at h
  rw [← h]
  rcases (show p = 0 ∨ p = 1 ∨ p = 2 ∨ p = 3 ∨ p = 4 ∨ p = 5 ∨ p = 6 ∨ p = 7 ∨ p = 8 ∨ p = 9 ∨ p = 10 by omega) with rfl | rfl | rfl | rfl | rfl | rfl | rfl | rfl | rfl | rfl | rfl
  · exact hb0.symm
  · exact hb1.symm
  · exact hb2.symm
  · exact hb3.symm
  · exact hb4.symm
  · exact hb5.symm
  · exact hb6.symm
  · exact hb7.symm
  · exact hb8.symm
  · exact hb9.symm
  · exact hb10.symm
set_option maxRecDepth 20000 in
set_option maxHeartbeats 8000000 in
theorem impl_Spread.calls (a0_0 : Int) (a0_1 : Int) (A0_2 : Option Addr) (c0_2 : Nat) (l0_2 : List (S66)) (a1 : Int) (a2 : Int) (r : List Int) (w : World) (hr0_2 : Kd.C k66 w A0_2 l0_2.length l0_2) (hc0_2 : l0_2.length ≤ c0_2) (h : impl_Spread.f a0_0 a0_1 l0_2 a1 a2 = some r) :
    Calls Try.prog 26 #[.agg #[.int .i64 a0_0, .int .i64 a0_1, .slice A0_2 l0_2.length c0_2], .int .i64 a1, .int .i64 a2] w fun e w' => ∃ v0_ : Value, e = .returned (v0_) ∧ Kd.R (Kd.int .i64) 3 w' w.heap.size (fun _ => True) v0_ r ∧ Below w.heap.size w w' := by
  have hu29 := Try.underlying29
  have hu33 := Try.underlying33
  have hu66 := Try.underlying66
  have hu68 := Try.underlying68
  have hu76 := Try.underlying76
  have HR := Aside0.mk hr0_2
  have HC := Aside0.mk hc0_2
  clear hr0_2 hc0_2
  have HB := Aside0.mk (Below.refl w.heap.size w)
  unfold impl_Spread.f at h
  have HRE := Aside0.mk (Option.some.inj h)
  clear h
  obtain ⟨bo, hbo⟩ : ∃ b, impl_TrainOk.l0 a0_0 a0_1 l0_2 = b := ⟨_, rfl⟩
  have HOK := Aside0.mk (show impl_TrainOk.f a0_0 a0_1 l0_2 = some bo by unfold impl_TrainOk.f; rw [hbo])
  obtain ⟨br, hbr⟩ : ∃ b, decide (0 ≤ a1 ∧ a1 < a2 ∧ a2 ≤ a0_1) = b := ⟨_, rfl⟩
  have HRI := Aside0.mk (show impl_Train_ride.f a0_0 a0_1 l0_2 a1 a2 = some br by rw [hd_ride, hbr])
  have OK0 := Aside0.mk hbo
  have RI0 := Aside0.mk hbr
  clear hbo hbr
  cases bo with
  | false =>
    have HRES := Aside0.mk (show r = ([] : List Int) by rw [← HRE.out]; rw [OK0.out]; rw [if_neg (by simp)])
    go_enter Try.func26, Try.ntmps26
    go_upto_region 1 with (fail)
    have BT := Aside0.mk (blk_new w (Obj.cells #[.int .i64 a0_0, .int .i64 a0_1, .slice A0_2 l0_2.length c0_2] 29 (0, 0)))
    have HB1 := Aside0.mk (below_alloc HB.out (Obj.cells #[.int .i64 a0_0, .int .i64 a0_1, .slice A0_2 l0_2.length c0_2] 29 (0, 0)))
    clear HB
    generalize w.alloc (Obj.cells #[.int .i64 a0_0, .int .i64 a0_1, .slice A0_2 l0_2.length c0_2] 29 (0, 0)) = w9 at BT HB1 ⊢
    have HB := HB1
    clear HB1
    have hT0 : w9.cell? ⟨w.heap.size, 0, none⟩ = some (.int .i64 a0_0) := (blk_cell BT.out 0).trans rfl
    have hT1 : w9.cell? ⟨w.heap.size, 1, none⟩ = some (.int .i64 a0_1) := (blk_cell BT.out 1).trans rfl
    have hT2 : w9.cell? ⟨w.heap.size, 2, none⟩ = some (.slice A0_2 l0_2.length c0_2) := (blk_cell BT.out 2).trans rfl
    go_wp2_with (first | (go_at_call 15; (with_reducible refine (impl_TrainOk.calls a0_0 a0_1 A0_2 c0_2 l0_2 false _ (Kd.C_below HR.out HB.out) HC.out HOK.out).mono ?_); rintro e w11 ⟨rfl, hb⟩; have n0_ := Aside0.mk (blk_below BT.out hb); have n1_ := Aside0.mk (below_step HB.out hb); clear BT HB hT0 hT1 hT2; have BT := n0_; have HB := n1_; clear n0_ n1_ hb; have hT0 : w11.cell? ⟨w.heap.size, 0, none⟩ = some (.int .i64 a0_0) := (blk_cell BT.out 0).trans rfl; have hT1 : w11.cell? ⟨w.heap.size, 1, none⟩ = some (.int .i64 a0_1) := (blk_cell BT.out 1).trans rfl; have hT2 : w11.cell? ⟨w.heap.size, 2, none⟩ = some (.slice A0_2 l0_2.length c0_2) := (blk_cell BT.out 2).trans rfl) | ((with_reducible refine gate_callee (f := 15) rfl ?_); refine goesL_ (some 16) rfl rfl Try.func15 (by kernel_rfl) rfl #[.agg #[.int .i64 a0_0, .int .i64 a0_1, .slice A0_2 l0_2.length c0_2]] rfl (by (try simp only [List.map_toArray, List.map_cons, List.map_nil]); first | done | rfl | (simp only [List.length_drop, List.length_take]; rfl)) ?_; (with_reducible refine (impl_TrainOk.calls a0_0 a0_1 A0_2 c0_2 l0_2 false _ (Kd.C_below HR.out HB.out) HC.out HOK.out).mono ?_); rintro e w11 ⟨rfl, hb⟩; refine ⟨_, rfl, ?_⟩; have n0_ := Aside0.mk (blk_below BT.out hb); have n1_ := Aside0.mk (below_step HB.out hb); clear BT HB hT0 hT1 hT2; have BT := n0_; have HB := n1_; clear n0_ n1_ hb; have hT0 : w11.cell? ⟨w.heap.size, 0, none⟩ = some (.int .i64 a0_0) := (blk_cell BT.out 0).trans rfl; have hT1 : w11.cell? ⟨w.heap.size, 1, none⟩ = some (.int .i64 a0_1) := (blk_cell BT.out 1).trans rfl; have hT2 : w11.cell? ⟨w.heap.size, 2, none⟩ = some (.slice A0_2 l0_2.length c0_2) := (blk_cell BT.out 2).trans rfl))
    go_ret
    exact ⟨_, rfl, by rw [HRES.out]; exact Kd.R_nil _ _ _ _ _, HB.out⟩
  | true =>
    cases br with
    | false =>
      have HRES := Aside0.mk (show r = ([] : List Int) by rw [← HRE.out]; rw [if_neg (fun hh => of_decide_eq_false RI0.out hh.2)])
      go_enter Try.func26, Try.ntmps26
      go_upto_region 1 with (fail)
      have BT := Aside0.mk (blk_new w (Obj.cells #[.int .i64 a0_0, .int .i64 a0_1, .slice A0_2 l0_2.length c0_2] 29 (0, 0)))
      have HB1 := Aside0.mk (below_alloc HB.out (Obj.cells #[.int .i64 a0_0, .int .i64 a0_1, .slice A0_2 l0_2.length c0_2] 29 (0, 0)))
      clear HB
      generalize w.alloc (Obj.cells #[.int .i64 a0_0, .int .i64 a0_1, .slice A0_2 l0_2.length c0_2] 29 (0, 0)) = w9 at BT HB1 ⊢
      have HB := HB1
      clear HB1
      have hT0 : w9.cell? ⟨w.heap.size, 0, none⟩ = some (.int .i64 a0_0) := (blk_cell BT.out 0).trans rfl
      have hT1 : w9.cell? ⟨w.heap.size, 1, none⟩ = some (.int .i64 a0_1) := (blk_cell BT.out 1).trans rfl
      have hT2 : w9.cell? ⟨w.heap.size, 2, none⟩ = some (.slice A0_2 l0_2.length c0_2) := (blk_cell BT.out 2).trans rfl
      go_wp2_with (first | (go_at_call 15; (with_reducible refine (impl_TrainOk.calls a0_0 a0_1 A0_2 c0_2 l0_2 true _ (Kd.C_below HR.out HB.out) HC.out HOK.out).mono ?_); rintro e w11 ⟨rfl, hb⟩; have n0_ := Aside0.mk (blk_below BT.out hb); have n1_ := Aside0.mk (below_step HB.out hb); clear BT HB hT0 hT1 hT2; have BT := n0_; have HB := n1_; clear n0_ n1_ hb; have hT0 : w11.cell? ⟨w.heap.size, 0, none⟩ = some (.int .i64 a0_0) := (blk_cell BT.out 0).trans rfl; have hT1 : w11.cell? ⟨w.heap.size, 1, none⟩ = some (.int .i64 a0_1) := (blk_cell BT.out 1).trans rfl; have hT2 : w11.cell? ⟨w.heap.size, 2, none⟩ = some (.slice A0_2 l0_2.length c0_2) := (blk_cell BT.out 2).trans rfl) | ((with_reducible refine gate_callee (f := 15) rfl ?_); refine goesL_ (some 16) rfl rfl Try.func15 (by kernel_rfl) rfl #[.agg #[.int .i64 a0_0, .int .i64 a0_1, .slice A0_2 l0_2.length c0_2]] rfl (by (try simp only [List.map_toArray, List.map_cons, List.map_nil]); first | done | rfl | (simp only [List.length_drop, List.length_take]; rfl)) ?_; (with_reducible refine (impl_TrainOk.calls a0_0 a0_1 A0_2 c0_2 l0_2 true _ (Kd.C_below HR.out HB.out) HC.out HOK.out).mono ?_); rintro e w11 ⟨rfl, hb⟩; refine ⟨_, rfl, ?_⟩; have n0_ := Aside0.mk (blk_below BT.out hb); have n1_ := Aside0.mk (below_step HB.out hb); clear BT HB hT0 hT1 hT2; have BT := n0_; have HB := n1_; clear n0_ n1_ hb; have hT0 : w11.cell? ⟨w.heap.size, 0, none⟩ = some (.int .i64 a0_0) := (blk_cell BT.out 0).trans rfl; have hT1 : w11.cell? ⟨w.heap.size, 1, none⟩ = some (.int .i64 a0_1) := (blk_cell BT.out 1).trans rfl; have hT2 : w11.cell? ⟨w.heap.size, 2, none⟩ = some (.slice A0_2 l0_2.length c0_2) := (blk_cell BT.out 2).trans rfl) | (go_at_call 48; (with_reducible refine (impl_Train_ride.calls a0_0 a0_1 A0_2 c0_2 l0_2 a1 a2 false _ (Kd.C_below HR.out HB.out) HC.out HRI.out).mono ?_); rintro e w13 ⟨rfl, hb⟩; have n0_ := Aside0.mk (blk_below BT.out hb); have n1_ := Aside0.mk (below_step HB.out hb); clear BT HB hT0 hT1 hT2; have BT := n0_; have HB := n1_; clear n0_ n1_ hb; have hT0 : w13.cell? ⟨w.heap.size, 0, none⟩ = some (.int .i64 a0_0) := (blk_cell BT.out 0).trans rfl; have hT1 : w13.cell? ⟨w.heap.size, 1, none⟩ = some (.int .i64 a0_1) := (blk_cell BT.out 1).trans rfl; have hT2 : w13.cell? ⟨w.heap.size, 2, none⟩ = some (.slice A0_2 l0_2.length c0_2) := (blk_cell BT.out 2).trans rfl))
      go_ret
      exact ⟨_, rfl, by rw [HRES.out]; exact Kd.R_nil _ _ _ _ _, HB.out⟩
    | true =>
      have HRES := Aside0.mk (show impl_Spread.l2 l0_2 a0_0.toNat a2.toNat (a2.toNat - a1.toNat) a1.toNat [] = r by rw [← HRE.out]; rw [if_pos ⟨OK0.out, of_decide_eq_true RI0.out⟩])
      clear HRE
      go_enter Try.func26, Try.ntmps26
      go_upto_region 1 with (fail)
      have BT := Aside0.mk (blk_new w (Obj.cells #[.int .i64 a0_0, .int .i64 a0_1, .slice A0_2 l0_2.length c0_2] 29 (0, 0)))
      have HB1 := Aside0.mk (below_alloc HB.out (Obj.cells #[.int .i64 a0_0, .int .i64 a0_1, .slice A0_2 l0_2.length c0_2] 29 (0, 0)))
      clear HB
      generalize w.alloc (Obj.cells #[.int .i64 a0_0, .int .i64 a0_1, .slice A0_2 l0_2.length c0_2] 29 (0, 0)) = w9 at BT HB1 ⊢
      have HB := HB1
      clear HB1
      have hT0 : w9.cell? ⟨w.heap.size, 0, none⟩ = some (.int .i64 a0_0) := (blk_cell BT.out 0).trans rfl
      have hT1 : w9.cell? ⟨w.heap.size, 1, none⟩ = some (.int .i64 a0_1) := (blk_cell BT.out 1).trans rfl
      have hT2 : w9.cell? ⟨w.heap.size, 2, none⟩ = some (.slice A0_2 l0_2.length c0_2) := (blk_cell BT.out 2).trans rfl
      go_upto_region 3 with (first | (go_at_call 15; (with_reducible refine (impl_TrainOk.calls a0_0 a0_1 A0_2 c0_2 l0_2 true _ (Kd.C_below HR.out HB.out) HC.out HOK.out).mono ?_); rintro e w11 ⟨rfl, hb⟩; have n0_ := Aside0.mk (blk_below BT.out hb); have n1_ := Aside0.mk (below_step HB.out hb); clear BT HB hT0 hT1 hT2; have BT := n0_; have HB := n1_; clear n0_ n1_ hb; have hT0 : w11.cell? ⟨w.heap.size, 0, none⟩ = some (.int .i64 a0_0) := (blk_cell BT.out 0).trans rfl; have hT1 : w11.cell? ⟨w.heap.size, 1, none⟩ = some (.int .i64 a0_1) := (blk_cell BT.out 1).trans rfl; have hT2 : w11.cell? ⟨w.heap.size, 2, none⟩ = some (.slice A0_2 l0_2.length c0_2) := (blk_cell BT.out 2).trans rfl) | ((with_reducible refine gate_callee (f := 15) rfl ?_); refine goesL_ (some 16) rfl rfl Try.func15 (by kernel_rfl) rfl #[.agg #[.int .i64 a0_0, .int .i64 a0_1, .slice A0_2 l0_2.length c0_2]] rfl (by (try simp only [List.map_toArray, List.map_cons, List.map_nil]); first | done | rfl | (simp only [List.length_drop, List.length_take]; rfl)) ?_; (with_reducible refine (impl_TrainOk.calls a0_0 a0_1 A0_2 c0_2 l0_2 true _ (Kd.C_below HR.out HB.out) HC.out HOK.out).mono ?_); rintro e w11 ⟨rfl, hb⟩; refine ⟨_, rfl, ?_⟩; have n0_ := Aside0.mk (blk_below BT.out hb); have n1_ := Aside0.mk (below_step HB.out hb); clear BT HB hT0 hT1 hT2; have BT := n0_; have HB := n1_; clear n0_ n1_ hb; have hT0 : w11.cell? ⟨w.heap.size, 0, none⟩ = some (.int .i64 a0_0) := (blk_cell BT.out 0).trans rfl; have hT1 : w11.cell? ⟨w.heap.size, 1, none⟩ = some (.int .i64 a0_1) := (blk_cell BT.out 1).trans rfl; have hT2 : w11.cell? ⟨w.heap.size, 2, none⟩ = some (.slice A0_2 l0_2.length c0_2) := (blk_cell BT.out 2).trans rfl) | (go_at_call 48; (with_reducible refine (impl_Train_ride.calls a0_0 a0_1 A0_2 c0_2 l0_2 a1 a2 true _ (Kd.C_below HR.out HB.out) HC.out HRI.out).mono ?_); rintro e w13 ⟨rfl, hb⟩; have n0_ := Aside0.mk (blk_below BT.out hb); have n1_ := Aside0.mk (below_step HB.out hb); clear BT HB hT0 hT1 hT2; have BT := n0_; have HB := n1_; clear n0_ n1_ hb; have hT0 : w13.cell? ⟨w.heap.size, 0, none⟩ = some (.int .i64 a0_0) := (blk_cell BT.out 0).trans rfl; have hT1 : w13.cell? ⟨w.heap.size, 1, none⟩ = some (.int .i64 a0_1) := (blk_cell BT.out 1).trans rfl; have hT2 : w13.cell? ⟨w.heap.size, 2, none⟩ = some (.slice A0_2 l0_2.length c0_2) := (blk_cell BT.out 2).trans rfl))
      obtain ⟨⟨ha0, ha1⟩, ⟨hp0, hp1⟩, _, _⟩ := hd_train_parts OK0.out
      obtain ⟨h0, h1, h2⟩ := of_decide_eq_true RI0.out
      obtain ⟨n, rfl⟩ : ∃ m : Nat, a0_0 = (m : Int) := ⟨a0_0.toNat, by omega⟩
      obtain ⟨on, rfl⟩ : ∃ m : Nat, a1 = (m : Int) := ⟨a1.toNat, by omega⟩
      obtain ⟨off, rfl⟩ : ∃ m : Nat, a2 = (m : Int) := ⟨a2.toNat, by omega⟩
      have HRS := Aside0.mk (show impl_Spread.l2 l0_2 n off (off - on) on [] = r by have := HRES.out; simpa only [Int.toNat_natCast] using this)
      have NN := Aside0.mk (show (1 ≤ n ∧ n ≤ 60) ∧ on < off ∧ off ≤ 11 by omega)
      clear HRES HOK HRI RI0 ha0 ha1 hp0 hp1 h0 h1 h2
      go_upto_region 6 with (first | (go_at_call 57; refine (hd_held (n : Int) a0_1 A0_2 c0_2 l0_2 _ (Kd.C_below HR.out HB.out) HC.out OK0.out).mono ?_; rintro e w10 hpost; obtain ⟨B, xs, rfl, hBA, hge, hHK, hb10⟩ := hpost; rw [Int.toNat_natCast] at hHK; simp only [Int.toNat_natCast]; have HB2 := Aside0.mk (below_step HB.out hb10); have BA := Aside0.mk hBA; have HK := Aside0.mk hHK; clear HB BT hT0 hT1 hT2 hBA hge hHK hb10; have HB := HB2; clear HB2) | ((with_reducible refine gate_dst (N := 27) rfl ?_); refine Kd.R_lit (Kd.int .i64) _ 3 ?hg (N := 27) ?hd (xs := ([] : List Int)) (inner := []) (ok := fun _ => True) (okp := fun _ => True) ?hr ?hp (fun _ hk => hk) trivial (Below.refl _ _) (Nat.le_refl _) (by simp) ?_; (case hd => rfl); (case hg => rfl); (case hr => first | (go_simp; done) | (go_simp; rfl)); (case hp => exact (Reps.none _ _)); intro v177 w12 ho10 hb hg_ hnew_; clear hg_ hnew_; have n0_ := Aside0.mk (Kd.R_lower ho10 (below_size HB.out)); have n1_ := Aside0.mk (blk_below BA.out hb); have n2_ := Aside0.mk (below_step HB.out hb); clear HB BA; have HO := n0_; have BA := n1_; have HB := n2_; clear n0_ n1_ n2_ hb ho10))
      go_loopg [8, 9, 10, 11, 12, 13, 14] (off - on) (fun gg s8 s9 _ _ _ _ _ wr => ∃ (kk ff : Nat) (acc : List Int), on ≤ kk ∧ kk ≤ off ∧ off - kk ≤ gg ∧ off - kk ≤ ff ∧ s9 = .int .i64 kk ∧ Aside0 (acc.length = kk - on) ∧ Aside0 (impl_Spread.l2 l0_2 n off ff kk acc = r) ∧ Aside0 (Kd.R (Kd.int .i64) 3 wr w.heap.size (fun _ => True) s8 acc) ∧ Aside0 (wr.heap[B]? = some (.cells (xs.map Value.bool).toArray 68 (0, 0))) ∧ Aside0 (Below w.heap.size w wr))
      case atStart => exact ⟨on, off - on, [], Nat.le_refl _, by have := NN.out; omega, Nat.le_refl _, Nat.le_refl _, rfl, ⟨by simp⟩, HRS, HO, BA, HB⟩
      case round =>
        clear HO BA HB HRS
        obtain ⟨kk, ff, acc, hk1, hk2, hg, hf, rfl, HL, HRS, HO, BA, HB⟩ := hrel
        by_cases hlt : (kk : Int) < (off : Int)
        · obtain ⟨f2, rfl⟩ : ∃ f2, ff = f2 + 1 := ⟨ff - 1, by omega⟩
          go_wp2
          go_loopg [10, 11, 12, 13, 14, 34] n (fun gg s10 s11 _ _ _ s34 wi => ∃ (ii bst mst : Nat), ii ≤ n ∧ n - ii ≤ gg ∧ Aside0 (impl_Spread.l1 l0_2 kk off ii = (bst, mst)) ∧ s10 = .int .i64 bst ∧ s11 = .int .i64 mst ∧ s34 = .int .i64 ii ∧ Aside0 (Kd.R (Kd.int .i64) 3 wi w.heap.size (fun _ => True) u8 acc) ∧ Aside0 (wi.heap[B]? = some (.cells (xs.map Value.bool).toArray 68 (0, 0))) ∧ Aside0 (Below w.heap.size w wi))
          case atStart => exact ⟨0, 0, 0, Nat.zero_le _, by omega, ⟨rfl⟩, rfl, rfl, rfl, HO, BA, HB⟩
          case round =>
            clear HO BA HB
            obtain ⟨ii, bst, mst, hi1, hg2, BM, rfl, rfl, rfl, HO, BA, HB⟩ := hrel
            by_cases hlt2 : ii < n
            · have hk0 : (0 : Int) ≤ (kk : Int) := Int.natCast_nonneg kk
              have hltz : (ii : Int) < (n : Int) := by omega
              have hnn : (0 : Int) ≤ (ii : Int) := Int.natCast_nonneg ii
              have hcell : ∀ p, p < 11 → wr.cell? ⟨B, ii * 11 + p, none⟩ = some (.bool (xs.getD (ii * 11 + p) false)) := fun p hp => (blk_cell BA.out (ii * 11 + p)).trans (by
                have := HK.out.1
                simp [List.getD_eq_getElem?_getD, show ii * 11 + p < xs.length by omega])
              obtain ⟨b0, hb0⟩ : ∃ v, xs.getD (ii * 11 + 0) false = v := ⟨_, rfl⟩
              obtain ⟨b1, hb1⟩ : ∃ v, xs.getD (ii * 11 + 1) false = v := ⟨_, rfl⟩
              obtain ⟨b2, hb2⟩ : ∃ v, xs.getD (ii * 11 + 2) false = v := ⟨_, rfl⟩
              obtain ⟨b3, hb3⟩ : ∃ v, xs.getD (ii * 11 + 3) false = v := ⟨_, rfl⟩
              obtain ⟨b4, hb4⟩ : ∃ v, xs.getD (ii * 11 + 4) false = v := ⟨_, rfl⟩
              obtain ⟨b5, hb5⟩ : ∃ v, xs.getD (ii * 11 + 5) false = v := ⟨_, rfl⟩
              obtain ⟨b6, hb6⟩ : ∃ v, xs.getD (ii * 11 + 6) false = v := ⟨_, rfl⟩
              obtain ⟨b7, hb7⟩ : ∃ v, xs.getD (ii * 11 + 7) false = v := ⟨_, rfl⟩
              obtain ⟨b8, hb8⟩ : ∃ v, xs.getD (ii * 11 + 8) false = v := ⟨_, rfl⟩
              obtain ⟨b9, hb9⟩ : ∃ v, xs.getD (ii * 11 + 9) false = v := ⟨_, rfl⟩
              obtain ⟨b10, hb10⟩ : ∃ v, xs.getD (ii * 11 + 10) false = v := ⟨_, rfl⟩
              have hlist : Aside0 (∀ p, p < 11 → ([b0, b1, b2, b3, b4, b5, b6, b7, b8, b9, b10].getD p false) = l0_2.any (impl_TrainOk.l4 ii p)) := ⟨hd_row11s HK.out hlt2 hb0 hb1 hb2 hb3 hb4 hb5 hb6 hb7 hb8 hb9 hb10⟩
              have hc0 : wr.cell? ⟨B, ii * 11, none⟩ = some (.bool b0) := by rw [← hb0]; exact hcell 0 (by omega)
              have hc1 : wr.cell? ⟨B, ii * 11 + 1, none⟩ = some (.bool b1) := by rw [← hb1]; exact hcell 1 (by omega)
              have hc2 : wr.cell? ⟨B, ii * 11 + 2, none⟩ = some (.bool b2) := by rw [← hb2]; exact hcell 2 (by omega)
              have hc3 : wr.cell? ⟨B, ii * 11 + 3, none⟩ = some (.bool b3) := by rw [← hb3]; exact hcell 3 (by omega)
              have hc4 : wr.cell? ⟨B, ii * 11 + 4, none⟩ = some (.bool b4) := by rw [← hb4]; exact hcell 4 (by omega)
              have hc5 : wr.cell? ⟨B, ii * 11 + 5, none⟩ = some (.bool b5) := by rw [← hb5]; exact hcell 5 (by omega)
              have hc6 : wr.cell? ⟨B, ii * 11 + 6, none⟩ = some (.bool b6) := by rw [← hb6]; exact hcell 6 (by omega)
              have hc7 : wr.cell? ⟨B, ii * 11 + 7, none⟩ = some (.bool b7) := by rw [← hb7]; exact hcell 7 (by omega)
              have hc8 : wr.cell? ⟨B, ii * 11 + 8, none⟩ = some (.bool b8) := by rw [← hb8]; exact hcell 8 (by omega)
              have hc9 : wr.cell? ⟨B, ii * 11 + 9, none⟩ = some (.bool b9) := by rw [← hb9]; exact hcell 9 (by omega)
              have hc10 : wr.cell? ⟨B, ii * 11 + 10, none⟩ = some (.bool b10) := by rw [← hb10]; exact hcell 10 (by omega)
              clear hcell hb0 hb1 hb2 hb3 hb4 hb5 hb6 hb7 hb8 hb9 hb10
              have hnn2 := NN.out
              go_upto_region 11 with (fail)
              have n0_ := Aside0.mk (blk_new wr (Obj.cells #[.bool b0, .bool b1, .bool b2, .bool b3, .bool b4, .bool b5, .bool b6, .bool b7, .bool b8, .bool b9, .bool b10] 68 (0, 0)))
              have n1_ := Aside0.mk (blk_alloc BA.out (Obj.cells #[.bool b0, .bool b1, .bool b2, .bool b3, .bool b4, .bool b5, .bool b6, .bool b7, .bool b8, .bool b9, .bool b10] 68 (0, 0)))
              have n2_ := Aside0.mk (Kd.R_alloc HO.out (Obj.cells #[.bool b0, .bool b1, .bool b2, .bool b3, .bool b4, .bool b5, .bool b6, .bool b7, .bool b8, .bool b9, .bool b10] 68 (0, 0)))
              have n3_ := Aside0.mk (below_alloc HB.out (Obj.cells #[.bool b0, .bool b1, .bool b2, .bool b3, .bool b4, .bool b5, .bool b6, .bool b7, .bool b8, .bool b9, .bool b10] 68 (0, 0)))
              clear BA HO HB hc0 hc1 hc2 hc3 hc4 hc5 hc6 hc7 hc8 hc9 hc10
              generalize wr.alloc (Obj.cells #[.bool b0, .bool b1, .bool b2, .bool b3, .bool b4, .bool b5, .bool b6, .bool b7, .bool b8, .bool b9, .bool b10] 68 (0, 0)) = w12 at n0_ n1_ n2_ n3_ ⊢
              generalize wr.heap.size = gb at n0_ ⊢
              have BG := n0_
              have BA := n1_
              have HO := n2_
              have HB := n3_
              clear n0_ n1_ n2_ n3_
              have hcell : Aside0 (∀ (W : World), W.heap[gb]? = some (Obj.cells #[.bool b0, .bool b1, .bool b2, .bool b3, .bool b4, .bool b5, .bool b6, .bool b7, .bool b8, .bool b9, .bool b10] 68 (0, 0)) → ∀ p, p < 11 → W.cell? ⟨gb, p, none⟩ = some (.bool (l0_2.any (impl_TrainOk.l4 ii p)))) := ⟨fun W hW p hp => by
                rw [← hlist.out p hp]
                refine (blk_cell hW p).trans ?_
                rcases (show p = 0 ∨ p = 1 ∨ p = 2 ∨ p = 3 ∨ p = 4 ∨ p = 5 ∨ p = 6 ∨ p = 7 ∨ p = 8 ∨ p = 9 ∨ p = 10 by omega) with rfl | rfl | rfl | rfl | rfl | rfl | rfl | rfl | rfl | rfl | rfl <;> rfl⟩
              clear hlist
              generalize Obj.cells #[.bool b0, .bool b1, .bool b2, .bool b3, .bool b4, .bool b5, .bool b6, .bool b7, .bool b8, .bool b9, .bool b10] 68 (0, 0) = OBJ at BG hcell
              go_wp2
              go_loopg [14] (off - kk) (fun gg s14 wj => ∃ (m : Nat), m ≤ off - kk ∧ off - kk - m ≤ gg ∧ s14 = .int .i64 m ∧ Aside0 (impl_Spread.l0 l0_2 ii (off - kk) kk = m + impl_Spread.l0 l0_2 ii (off - kk - m) (kk + m)) ∧ Aside0 (Kd.R (Kd.int .i64) 3 wj w.heap.size (fun _ => True) u8 acc) ∧ Aside0 (wj.heap[gb]? = some OBJ) ∧ Aside0 (wj.heap[B]? = some (.cells (xs.map Value.bool).toArray 68 (0, 0))) ∧ Aside0 (Below w.heap.size w wj))
              case atStart => exact ⟨0, Nat.zero_le _, by omega, rfl, ⟨by rw [Nat.sub_zero, Nat.add_zero, Nat.zero_add]⟩, HO, BG, BA, HB⟩
              case round =>
                clear BG BA HB HO
                obtain ⟨m, hm, hg3, rfl, HRUN, HO, BG, BA, HB⟩ := hrel
                have hm0 : (0 : Int) ≤ (m : Int) := Int.natCast_nonneg m
                by_cases hq : (kk : Int) + (m : Int) < (off : Int)
                · obtain ⟨bt, hbt⟩ : ∃ bt, l0_2.any (impl_TrainOk.l4 ii (kk + m)) = bt := ⟨_, rfl⟩
                  have hc := hcell.out wr BG.out (kk + m) (by omega)
                  rw [hbt] at hc
                  have hq2 : (kk : Int) + (m : Int) < 11 := by omega
                  have HN : Aside0 (impl_Spread.l0 l0_2 ii (off - kk - m) (kk + m) = if bt = true then 0 else impl_Spread.l0 l0_2 ii (off - kk - (m + 1)) (kk + (m + 1)) + 1) := ⟨by
                    obtain ⟨d, hd⟩ : ∃ d, off - kk - m = d + 1 := ⟨off - kk - m - 1, by omega⟩
                    rw [hd, impl_Spread.l0, hbt, show off - kk - (m + 1) = d by omega, Nat.add_assoc]⟩
                  clear hbt
                  cases bt with
                  | false =>
                    go_wp2
                    go_roundg (off - kk - (m + 1))
                    case measure => omega
                    case rel => exact ⟨m + 1, by omega, by omega, congrArg (Value.int .i64) (by omega), ⟨by rw [HRUN.out, HN.out, if_neg (by decide)]; omega⟩, HO, BG, BA, HB⟩
                  | true =>
                    have RUN := Aside0.mk (show impl_Spread.l0 l0_2 ii (off - kk) kk = m by rw [HRUN.out, HN.out, if_pos rfl, Nat.add_zero])
                    clear HRUN
                    by_cases hgt : (mst : Int) < (m : Int)
                    · go_wp2
                      go_roundg (n - (ii + 1))
                      case measure => omega
                      case rel =>
                        refine ⟨ii + 1, ii, m, by omega, by omega, ⟨?_⟩, rfl, rfl, congrArg (Value.int .i64) (by omega), HO, BA, HB⟩
                        unfold impl_Spread.l1
                        rw [RUN.out, BM.out, if_pos (show mst < m by omega)]
                    · go_wp2
                      go_roundg (n - (ii + 1))
                      case measure => omega
                      case rel =>
                        refine ⟨ii + 1, bst, mst, by omega, by omega, ⟨?_⟩, rfl, rfl, congrArg (Value.int .i64) (by omega), HO, BA, HB⟩
                        unfold impl_Spread.l1
                        rw [RUN.out, BM.out, if_neg (show ¬ mst < m by omega)]
                · have HN : Aside0 (impl_Spread.l0 l0_2 ii (off - kk - m) (kk + m) = 0) := ⟨by
                    rw [show off - kk - m = 0 by omega, impl_Spread.l0]⟩
                  have hq2 : (kk : Int) + (m : Int) ≤ 11 := by omega
                  have RUN := Aside0.mk (show impl_Spread.l0 l0_2 ii (off - kk) kk = m by rw [HRUN.out, HN.out, Nat.add_zero])
                  clear HRUN
                  by_cases hgt : (mst : Int) < (m : Int)
                  · go_wp2
                    go_roundg (n - (ii + 1))
                    case measure => omega
                    case rel =>
                      refine ⟨ii + 1, ii, m, by omega, by omega, ⟨?_⟩, rfl, rfl, congrArg (Value.int .i64) (by omega), HO, BA, HB⟩
                      unfold impl_Spread.l1
                      rw [RUN.out, BM.out, if_pos (show mst < m by omega)]
                  · go_wp2
                    go_roundg (n - (ii + 1))
                    case measure => omega
                    case rel =>
                      refine ⟨ii + 1, bst, mst, by omega, by omega, ⟨?_⟩, rfl, rfl, congrArg (Value.int .i64) (by omega), HO, BA, HB⟩
                      unfold impl_Spread.l1
                      rw [RUN.out, BM.out, if_neg (show ¬ mst < m by omega)]
            · have hltz : ¬ (ii : Int) < (n : Int) := by omega
              have hin : ii = n := by omega
              subst hin
              have hms := hd_sp1_le l0_2 kk off ii
              rw [BM.out] at hms
              have hms := (show mst ≤ off - kk from hms)
              have hnn2 := NN.out
              have HL2 := Aside0.mk HRS.out
              by_cases hz : (mst : Int) = 0
              · have hz0 : mst = 0 := by omega
                subst hz0
                have hR : Aside0 (r = []) := ⟨by
                  rw [← HRS.out, impl_Spread.l2, if_pos (show kk < off by omega), BM.out, if_pos rfl]⟩
                clear hz
                go_wp2
                go_ret
                exact ⟨_, rfl, by rw [hR.out]; exact Kd.R_nil _ _ _ _ _, HB.out⟩
              · go_wp2
                go_loopg [8, 9, 11] mst (fun gg s8 s9 s11 wj => ∃ (mm : Nat), mm ≤ mst ∧ mm ≤ gg ∧ s11 = .int .i64 mm ∧ s9 = .int .i64 ((kk + (mst - mm) : Nat) : Int) ∧ Aside0 (Kd.R (Kd.int .i64) 3 wj w.heap.size (fun _ => True) s8 (acc ++ List.replicate (mst - mm) (bst : Int))) ∧ Aside0 (wj.heap[B]? = some (.cells (xs.map Value.bool).toArray 68 (0, 0))) ∧ Aside0 (Below w.heap.size w wj))
                case atStart => exact ⟨mst, Nat.le_refl _, Nat.le_refl _, rfl, by rw [Nat.sub_self, Nat.add_zero], by rw [Nat.sub_self, List.replicate_zero, List.append_nil]; exact HO, BA, HB⟩
                case round =>
                  clear HO BA HB
                  obtain ⟨mm, hm1, hg4, rfl, rfl, HO, BA, HB⟩ := hrel
                  by_cases hmz : (mm : Int) > 0
                  · obtain ⟨mm, rfl⟩ : ∃ m2, mm = m2 + 1 := ⟨mm - 1, by omega⟩
                    have hl60 : Aside0 ((acc ++ List.replicate (mst - (mm + 1)) (bst : Int)).length ≤ 11) := ⟨by rw [List.length_append, List.length_replicate, HL.out]; omega⟩
                    have hat0 : (0 : Int) ≤ ((kk + (mst - (mm + 1)) : Nat) : Int) := by omega
                    have hat1 : ((kk + (mst - (mm + 1)) : Nat) : Int) < 11 := by omega
                    generalize hA : kk + (mst - (mm + 1)) = aa at hat0 hat1 ⊢
                    go_wp2_with (first | ((with_reducible refine gate_builtin (b := .append) (xs := #[.tmp 66, .tmp 68]) rfl ?_); at_builtin; refine Kd.R_append (Kd.int .i64) (w0 := w) w.heap.size rfl (.tmp 66) (.tmp 68) 33 3 (.int .i64 0) 8 rfl Try.underlying33 hd_info3s rfl (by decide) (by omega) u8 (acc ++ List.replicate (mst - (mm + 1)) (bst : Int)) (bst : Int) [.int .i64 (bst : Int)] (fun _ => True) (fun _ => False) rfl rfl ?aP (fun _ hk => hk.elim) ?aF ?aO ?aB ?aS ?aL ?_; (case aP => exact rfl); (case aB => exact (by repeat (first | (with_reducible first | exact HB.out | apply below_alloc | apply pw_below_drewN | apply below_drew1) | exact HB.out))); (case aF => exact (fun _ _ => trivial)); (case aO => exact (by (with_reducible repeat (first | apply Kd.R_alloc | apply Kd.R_drewN | apply Kd.R_drew)); exact HO.out)); (case aS => exact (below_size (by repeat (first | (with_reducible first | exact HB.out | apply below_alloc | apply pw_below_drewN | apply below_drew1) | exact HB.out)))); (case aL => have := hl60.out; omega); intro v181 w22 ho hb hg hat; have n0_ := Aside0.mk (blk_grown (g := B) (by (with_reducible repeat (first | refine blk_drewN ?_ _ | refine blk_drew ?_ | refine blk_alloc ?_ _)); exact BA.out) hg (Kd.R_ne HO.out BA.out (by decide))); have n1_ := Aside0.mk hb; have n2_ := Aside0.mk ho; clear BA HB HO; have BA := n0_; have HB := n1_; have HO := n2_; clear n0_ n1_ n2_ ho hb hg hat))
                    go_roundg mm
                    case measure => omega
                    case rel => exact ⟨mm, by omega, by omega, congrArg (Value.int .i64) (by omega), congrArg (Value.int .i64) (by omega), ⟨by rw [show mst - mm = (mst - (mm + 1)) + 1 by omega, List.replicate_succ', ← List.append_assoc]; exact HO.out⟩, BA, HB⟩
                  · have hm0 : mm = 0 := by omega
                    subst hm0
                    go_wp2
                    go_roundg (off - (kk + mst))
                    case measure => omega
                    case rel =>
                      refine ⟨kk + mst, f2, acc ++ List.replicate mst (bst : Int), by omega, by omega, by omega, by omega, congrArg (Value.int .i64) (by omega), ⟨by rw [List.length_append, List.length_replicate, HL.out]; omega⟩, ⟨?_⟩, HO, BA, HB⟩
                      have h := HRS.out
                      rw [impl_Spread.l2, if_pos (show kk < off by omega), BM.out, if_neg (show ¬ mst = 0 by omega)] at h
                      exact h
        · have hR : Aside0 (acc = r) := ⟨by
            rw [← HRS.out]
            cases ff with
            | zero => rfl
            | succ f2 => rw [impl_Spread.l2, if_neg (show ¬ kk < off by omega)]⟩
          go_wp2
          go_ret
          exact ⟨_, rfl, by rw [← hR.out]; exact HO.out, HB.out⟩

end Go.Proofs.Ytklikbjlfaednaa.P

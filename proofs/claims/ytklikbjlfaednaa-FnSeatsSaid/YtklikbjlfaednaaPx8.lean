/- Contracts of the functions of the program, each one with its plain Lean function; written by a program of the session out of the translation. -/
import Derived.Test.YtklikbjlfaednaaPx0
import Derived.Test.YtklikbjlfaednaaPx3
import Derived.Test.YtklikbjlfaednaaPx4
namespace Go.Proofs.Ytklikbjlfaednaa.P
open Go.RowKit Go.Proofs.YtklikbjlfaednaaW.PrintWords Go.Proofs.YtklikbjlfaednaaW.PrintLast Go.Proofs.YtklikbjlfaednaaW.PrintMore
attribute [local go_sem] max2_int min2_int max_two min_two max_three min_three max_four min_four   -- for this text's walks alone
set_option linter.unusedVariables false
set_option linter.unusedSimpArgs false

/-! ### impl_Train_hole: function 56, by hand -/

theorem hd_row11 {n : Nat} {l : List S66} {xs : List Bool} {st : Nat} {b0 b1 b2 b3 b4 b5 b6 b7 b8 b9 b10 : Bool} (hHK : hd_HK n l xs l.length) (hs : st < n) (hb0 : xs.getD (st * 11 + 0) false = b0) (hb1 : xs.getD (st * 11 + 1) false = b1) (hb2 : xs.getD (st * 11 + 2) false = b2) (hb3 : xs.getD (st * 11 + 3) false = b3) (hb4 : xs.getD (st * 11 + 4) false = b4) (hb5 : xs.getD (st * 11 + 5) false = b5) (hb6 : xs.getD (st * 11 + 6) false = b6) (hb7 : xs.getD (st * 11 + 7) false = b7) (hb8 : xs.getD (st * 11 + 8) false = b8) (hb9 : xs.getD (st * 11 + 9) false = b9) (hb10 : xs.getD (st * 11 + 10) false = b10) : ∀ p, p < 11 → ([b0, b1, b2, b3, b4, b5, b6, b7, b8, b9, b10].getD p false) = l.any (impl_TrainOk.l4 st p) := by
  intro p hp
  have h := hHK.2 st p hs hp
  rw [List.take_length] at h
  rw [← h]
  rcases (show p = 0 ∨ p = 1 ∨ p = 2 ∨ p = 3 ∨ p = 4 ∨ p = 5 ∨ p = 6 ∨ p = 7 ∨ p = 8 ∨ p = 9 ∨ p = 10 by omega) with rfl | rfl | rfl | rfl | rfl | rfl | rfl | rfl | rfl | rfl | rfl
  · exact hb0.symm
  · exact hb1.symm
  · exact hb2.symm
  · exact hb3.symm
  · exact hb4.symm
  · exact hb5.symm
  · exact hb6.symm
  · exact hb7.symm
  · exact hb8.symm
  · exact hb9.symm
  · exact hb10.symm
set_option maxRecDepth 20000 in
set_option maxHeartbeats 4000000 in
theorem impl_Train_hole.calls (a0_0 : Int) (a0_1 : Int) (A0_2 : Option Addr) (c0_2 : Nat) (l0_2 : List (S66)) (a1 : Int) (a2 : Int) (a3 : Int) (r : Int) (w : World) (hr0_2 : Kd.C k66 w A0_2 l0_2.length l0_2) (hc0_2 : l0_2.length ≤ c0_2) (h : impl_Train_hole.f a0_0 a0_1 l0_2 a1 a2 a3 = some r) :
    Calls Try.prog 56 #[.agg #[.int .i64 a0_0, .int .i64 a0_1, .slice A0_2 l0_2.length c0_2], .int .i64 a1, .int .i64 a2, .int .i64 a3] w fun e w' => e = .returned (.int .i64 r) ∧ Below w.heap.size w w' := by
  have hu29 := Try.underlying29
  have hu66 := Try.underlying66
  have hu68 := Try.underlying68
  have hu76 := Try.underlying76
  have HR := Aside0.mk hr0_2
  have HC := Aside0.mk hc0_2
  clear hr0_2 hc0_2
  have HB := Aside0.mk (Below.refl w.heap.size w)
  unfold impl_Train_hole.f at h
  split at h
  rotate_left
  · exact absurd h (by simp)
  rename_i hcond
  obtain ⟨hok, ⟨h0, h1⟩, h2, h3, h4, h5⟩ := hcond
  obtain rfl := Option.some.inj h
  clear h
  obtain ⟨⟨ha0, ha1⟩, ⟨hp0, hp1⟩, _, _⟩ := hd_train_parts hok
  have OK := Aside0.mk hok
  clear hok
  obtain ⟨n, rfl⟩ : ∃ m : Nat, a0_0 = (m : Int) := ⟨a0_0.toNat, by omega⟩
  obtain ⟨P, rfl⟩ : ∃ m : Nat, a0_1 = (m : Int) := ⟨a0_1.toNat, by omega⟩
  obtain ⟨st, rfl⟩ : ∃ m : Nat, a1 = (m : Int) := ⟨a1.toNat, by omega⟩
  obtain ⟨on, rfl⟩ : ∃ m : Nat, a2 = (m : Int) := ⟨a2.toNat, by omega⟩
  obtain ⟨off, rfl⟩ : ∃ m : Nat, a3 = (m : Int) := ⟨a3.toNat, by omega⟩
  simp only [Int.toNat_natCast]
  have NN := Aside0.mk (show (1 ≤ n ∧ n ≤ 60) ∧ st < n ∧ on ≤ P ∧ off ≤ P ∧ P ≤ 11 by omega)
  have z0 : (0 : Int) ≤ st := by omega
  have z1 : (st : Int) < n := by omega
  clear ha0 ha1 hp0 hp1 h0 h1 h2 h3 h4 h5
  go_enter Try.func56, Try.ntmps56
  go_upto_region 1 with (fail)
  have BT := Aside0.mk (blk_new w (Obj.cells #[.int .i64 (n : Int), .int .i64 (P : Int), .slice A0_2 l0_2.length c0_2] 29 (0, 0)))
  have HB1 := Aside0.mk (below_alloc HB.out (Obj.cells #[.int .i64 (n : Int), .int .i64 (P : Int), .slice A0_2 l0_2.length c0_2] 29 (0, 0)))
  clear HB
  generalize w.alloc (Obj.cells #[.int .i64 (n : Int), .int .i64 (P : Int), .slice A0_2 l0_2.length c0_2] 29 (0, 0)) = w9 at BT HB1 ⊢
  have HB := HB1
  clear HB1
  have hT0 : w9.cell? ⟨w.heap.size, 0, none⟩ = some (.int .i64 (n : Int)) := (blk_cell BT.out 0).trans rfl
  have hT1 : w9.cell? ⟨w.heap.size, 1, none⟩ = some (.int .i64 (P : Int)) := (blk_cell BT.out 1).trans rfl
  have hT2 : w9.cell? ⟨w.heap.size, 2, none⟩ = some (.slice A0_2 l0_2.length c0_2) := (blk_cell BT.out 2).trans rfl
  go_upto_region 2 with (first | (go_at_call 57; refine (hd_held (n : Int) (P : Int) A0_2 c0_2 l0_2 _ (Kd.C_below HR.out HB.out) HC.out OK.out).mono ?_; rintro e w10 hpost; obtain ⟨B, xs, rfl, hBA, hge, hHK, hb10⟩ := hpost; rw [Int.toNat_natCast] at hHK; simp only [Int.toNat_natCast]; have HB2 := Aside0.mk (below_step HB.out hb10); have BT2 := Aside0.mk (blk_below BT.out hb10); have hcell : ∀ p, p < 11 → w10.cell? ⟨B, st * 11 + p, none⟩ = some (.bool (xs.getD (st * 11 + p) false)) := (fun p hp => (blk_cell hBA (st * 11 + p)).trans (by have := hHK.1; have := NN.out; simp [List.getD_eq_getElem?_getD, show st * 11 + p < xs.length by omega])); clear HB BT hT0 hT1 hT2 hBA hge hb10; obtain ⟨b0, hb0⟩ : ∃ v, xs.getD (st * 11 + 0) false = v := ⟨_, rfl⟩; obtain ⟨b1, hb1⟩ : ∃ v, xs.getD (st * 11 + 1) false = v := ⟨_, rfl⟩; obtain ⟨b2, hb2⟩ : ∃ v, xs.getD (st * 11 + 2) false = v := ⟨_, rfl⟩; obtain ⟨b3, hb3⟩ : ∃ v, xs.getD (st * 11 + 3) false = v := ⟨_, rfl⟩; obtain ⟨b4, hb4⟩ : ∃ v, xs.getD (st * 11 + 4) false = v := ⟨_, rfl⟩; obtain ⟨b5, hb5⟩ : ∃ v, xs.getD (st * 11 + 5) false = v := ⟨_, rfl⟩; obtain ⟨b6, hb6⟩ : ∃ v, xs.getD (st * 11 + 6) false = v := ⟨_, rfl⟩; obtain ⟨b7, hb7⟩ : ∃ v, xs.getD (st * 11 + 7) false = v := ⟨_, rfl⟩; obtain ⟨b8, hb8⟩ : ∃ v, xs.getD (st * 11 + 8) false = v := ⟨_, rfl⟩; obtain ⟨b9, hb9⟩ : ∃ v, xs.getD (st * 11 + 9) false = v := ⟨_, rfl⟩; obtain ⟨b10, hb10⟩ : ∃ v, xs.getD (st * 11 + 10) false = v := ⟨_, rfl⟩; have hlist : Aside0 (∀ p, p < 11 → ([b0, b1, b2, b3, b4, b5, b6, b7, b8, b9, b10].getD p false) = l0_2.any (impl_TrainOk.l4 st p)) := ⟨hd_row11 hHK (by have := NN.out; omega) hb0 hb1 hb2 hb3 hb4 hb5 hb6 hb7 hb8 hb9 hb10⟩; have hc0 : w10.cell? ⟨B, st * 11, none⟩ = some (.bool b0) := (by rw [← hb0]; exact hcell 0 (by omega)); have hc1 : w10.cell? ⟨B, st * 11 + 1, none⟩ = some (.bool b1) := (by rw [← hb1]; exact hcell 1 (by omega)); have hc2 : w10.cell? ⟨B, st * 11 + 2, none⟩ = some (.bool b2) := (by rw [← hb2]; exact hcell 2 (by omega)); have hc3 : w10.cell? ⟨B, st * 11 + 3, none⟩ = some (.bool b3) := (by rw [← hb3]; exact hcell 3 (by omega)); have hc4 : w10.cell? ⟨B, st * 11 + 4, none⟩ = some (.bool b4) := (by rw [← hb4]; exact hcell 4 (by omega)); have hc5 : w10.cell? ⟨B, st * 11 + 5, none⟩ = some (.bool b5) := (by rw [← hb5]; exact hcell 5 (by omega)); have hc6 : w10.cell? ⟨B, st * 11 + 6, none⟩ = some (.bool b6) := (by rw [← hb6]; exact hcell 6 (by omega)); have hc7 : w10.cell? ⟨B, st * 11 + 7, none⟩ = some (.bool b7) := (by rw [← hb7]; exact hcell 7 (by omega)); have hc8 : w10.cell? ⟨B, st * 11 + 8, none⟩ = some (.bool b8) := (by rw [← hb8]; exact hcell 8 (by omega)); have hc9 : w10.cell? ⟨B, st * 11 + 9, none⟩ = some (.bool b9) := (by rw [← hb9]; exact hcell 9 (by omega)); have hc10 : w10.cell? ⟨B, st * 11 + 10, none⟩ = some (.bool b10) := (by rw [← hb10]; exact hcell 10 (by omega)); clear hcell hb0 hb1 hb2 hb3 hb4 hb5 hb6 hb7 hb8 hb9 hb10))
  have n0_ := Aside0.mk (blk_new w10 (Obj.cells #[.bool b0, .bool b1, .bool b2, .bool b3, .bool b4, .bool b5, .bool b6, .bool b7, .bool b8, .bool b9, .bool b10] 68 (0, 0)))
  have n1_ := Aside0.mk (blk_alloc BT2.out (Obj.cells #[.bool b0, .bool b1, .bool b2, .bool b3, .bool b4, .bool b5, .bool b6, .bool b7, .bool b8, .bool b9, .bool b10] 68 (0, 0)))
  have n3_ := Aside0.mk (below_alloc HB2.out (Obj.cells #[.bool b0, .bool b1, .bool b2, .bool b3, .bool b4, .bool b5, .bool b6, .bool b7, .bool b8, .bool b9, .bool b10] 68 (0, 0)))
  clear BT2 HB2 hc0 hc1 hc2 hc3 hc4 hc5 hc6 hc7 hc8 hc9 hc10
  generalize w10.alloc (Obj.cells #[.bool b0, .bool b1, .bool b2, .bool b3, .bool b4, .bool b5, .bool b6, .bool b7, .bool b8, .bool b9, .bool b10] 68 (0, 0)) = w12 at n0_ n1_ n3_ ⊢
  generalize w10.heap.size = gb at n0_ ⊢
  have BG := n0_
  have BT := n1_
  have HB := n3_
  clear n0_ n1_ n3_
  have hcell : Aside0 (∀ (W : World), W.heap[gb]? = some (Obj.cells #[.bool b0, .bool b1, .bool b2, .bool b3, .bool b4, .bool b5, .bool b6, .bool b7, .bool b8, .bool b9, .bool b10] 68 (0, 0)) → ∀ p, p < 11 → W.cell? ⟨gb, p, none⟩ = some (.bool (l0_2.any (impl_TrainOk.l4 st p)))) := ⟨fun W hW p hp => by
    rw [← hlist.out p hp]
    refine (blk_cell hW p).trans ?_
    rcases (show p = 0 ∨ p = 1 ∨ p = 2 ∨ p = 3 ∨ p = 4 ∨ p = 5 ∨ p = 6 ∨ p = 7 ∨ p = 8 ∨ p = 9 ∨ p = 10 by omega) with rfl | rfl | rfl | rfl | rfl | rfl | rfl | rfl | rfl | rfl | rfl <;> rfl⟩
  clear hlist
  generalize Obj.cells #[.bool b0, .bool b1, .bool b2, .bool b3, .bool b4, .bool b5, .bool b6, .bool b7, .bool b8, .bool b9, .bool b10] 68 (0, 0) = OBJ at BG hcell
  go_wp2
  go_loopg [2] on (fun gg s2 wr => ∃ (kk : Nat), kk ≤ on ∧ kk ≤ gg ∧ s2 = .int .i64 kk ∧ Aside0 (impl_Train_hole.l1 l0_2 st on = impl_Train_hole.l1 l0_2 st kk) ∧ Aside0 (wr.heap[gb]? = some OBJ) ∧ Aside0 (wr.heap[w.heap.size]? = some (.cells #[.int .i64 (n : Int), .int .i64 (P : Int), .slice A0_2 l0_2.length c0_2] 29 (0, 0))) ∧ Aside0 (Below w.heap.size w wr))
  case atStart => exact ⟨on, Nat.le_refl _, Nat.le_refl _, rfl, ⟨rfl⟩, BG, BT, HB⟩
  case round =>
    clear BG BT HB
    obtain ⟨kk, hkk, hg, rfl, HL, BG, BT, HB⟩ := hrel
    have hnn := NN.out
    have hcT : True := trivial
    by_cases hz : (0 : Int) < (kk : Int)
    · have hz2 : (kk : Int) ≤ 11 := by omega
      obtain ⟨p, rfl⟩ : ∃ p, kk = p + 1 := ⟨kk - 1, by omega⟩
      obtain ⟨bt, hbt⟩ : ∃ bt, l0_2.any (impl_TrainOk.l4 st p) = bt := ⟨_, rfl⟩
      have hc := hcell.out wr BG.out p (by omega)
      rw [hbt] at hc
      have hz3 : wrap64 (((p + 1 : Nat) : Int) - 1) = (p : Int) := by unfold wrap64; omega
      have hz4 : (0 : Int) ≤ (p : Int) := by omega
      have hz5 : (p : Int) < 11 := by omega
      have hz6 : (((p + 1 : Nat) : Int) - 1) = (p : Int) := by omega
      clear hnn
      cases bt with
      | false =>
        go_wp2
        go_roundg p
        case measure => omega
        case rel => exact ⟨p, by omega, Nat.le_refl _, rfl, ⟨by rw [HL.out, impl_Train_hole.l1, hbt, if_neg (by decide)]⟩, BG, BT, HB⟩
      | true =>
        go_wp2
        have LL : Aside0 (impl_Train_hole.l1 l0_2 st on = p + 1) := ⟨by rw [HL.out, impl_Train_hole.l1, hbt, if_pos rfl]⟩
        clear HL
        go_loopg [3] (P - off) (fun gg s3 wr => ∃ (kk : Nat), off ≤ kk ∧ kk ≤ P ∧ P - kk ≤ gg ∧ s3 = .int .i64 kk ∧ Aside0 (impl_Train_hole.l2 l0_2 st P (P - off) = impl_Train_hole.l2 l0_2 st P (P - kk)) ∧ Aside0 (wr.heap[gb]? = some OBJ) ∧ Aside0 (wr.heap[w.heap.size]? = some (.cells #[.int .i64 (n : Int), .int .i64 (P : Int), .slice A0_2 l0_2.length c0_2] 29 (0, 0))) ∧ Aside0 (Below w.heap.size w wr))
        case atStart => exact ⟨off, Nat.le_refl _, by have := NN.out; omega, Nat.le_refl _, rfl, ⟨rfl⟩, BG, BT, HB⟩
        case round =>
          clear BG BT HB
          clear hcT
          obtain ⟨q, hq1, hq2, hg, rfl, HM, BG, BT, HB⟩ := hrel
          have hT1 : wr.cell? ⟨w.heap.size, 1, none⟩ = some (.int .i64 (P : Int)) := (blk_cell BT.out 1).trans rfl
          have hnn := NN.out
          by_cases hy : (q : Int) < (P : Int)
          · obtain ⟨bt, hbt⟩ : ∃ bt, l0_2.any (impl_TrainOk.l4 st q) = bt := ⟨_, rfl⟩
            have hc := hcell.out wr BG.out q (by omega)
            rw [hbt] at hc
            have hy4 : (0 : Int) ≤ (q : Int) := by omega
            have hy5 : (q : Int) < 11 := by omega
            have HN : Aside0 (impl_Train_hole.l2 l0_2 st P (P - q) = if bt = true then q else impl_Train_hole.l2 l0_2 st P (P - (q + 1))) := ⟨by
              obtain ⟨d, hd⟩ : ∃ d, P - q = d + 1 := ⟨P - q - 1, by omega⟩
              rw [hd, impl_Train_hole.l2, show P - (d + 1) = q by omega, hbt, show P - (q + 1) = d by omega]⟩
            clear hnn hbt
            cases bt with
            | false =>
              go_wp2
              go_roundg (P - (q + 1))
              case measure => omega
              case rel => exact ⟨q + 1, by omega, by omega, by omega, congrArg (Value.int .i64) (by omega), ⟨by rw [HM.out, HN.out, if_neg (by decide)]⟩, BG, BT, HB⟩
            | true =>
              go_wp2
              go_ret
              refine ⟨?_, HB.out⟩
              have e : impl_Train_hole.l2 l0_2 st P (P - off) = q := by rw [HM.out, HN.out]; simp
              rw [e, LL.out]
              exact congrArg Ending.returned (congrArg (Value.int .i64) (by omega))
          · have hqP : q = P := by omega
            have hy4 : (0 : Int) ≤ (q : Int) := by omega
            have hy5 : (q : Int) < 12 := by omega
            clear hnn
            go_wp2
            go_ret
            refine ⟨?_, HB.out⟩
            have e : impl_Train_hole.l2 l0_2 st P (P - off) = q := by rw [HM.out, hqP, Nat.sub_self, impl_Train_hole.l2]
            rw [e, LL.out]
            exact congrArg Ending.returned (congrArg (Value.int .i64) (by omega))
    · have hk0 : kk = 0 := by omega
      subst hk0
      clear hnn
      go_wp2
      have LL : Aside0 (impl_Train_hole.l1 l0_2 st on = 0) := ⟨by rw [HL.out, impl_Train_hole.l1]⟩
      clear HL
      go_loopg [3] (P - off) (fun gg s3 wr => ∃ (kk : Nat), off ≤ kk ∧ kk ≤ P ∧ P - kk ≤ gg ∧ s3 = .int .i64 kk ∧ Aside0 (impl_Train_hole.l2 l0_2 st P (P - off) = impl_Train_hole.l2 l0_2 st P (P - kk)) ∧ Aside0 (wr.heap[gb]? = some OBJ) ∧ Aside0 (wr.heap[w.heap.size]? = some (.cells #[.int .i64 (n : Int), .int .i64 (P : Int), .slice A0_2 l0_2.length c0_2] 29 (0, 0))) ∧ Aside0 (Below w.heap.size w wr))
      case atStart => exact ⟨off, Nat.le_refl _, by have := NN.out; omega, Nat.le_refl _, rfl, ⟨rfl⟩, BG, BT, HB⟩
      case round =>
        clear BG BT HB
        clear hcT
        obtain ⟨q, hq1, hq2, hg, rfl, HM, BG, BT, HB⟩ := hrel
        have hT1 : wr.cell? ⟨w.heap.size, 1, none⟩ = some (.int .i64 (P : Int)) := (blk_cell BT.out 1).trans rfl
        have hnn := NN.out
        by_cases hy : (q : Int) < (P : Int)
        · obtain ⟨bt, hbt⟩ : ∃ bt, l0_2.any (impl_TrainOk.l4 st q) = bt := ⟨_, rfl⟩
          have hc := hcell.out wr BG.out q (by omega)
          rw [hbt] at hc
          have hy4 : (0 : Int) ≤ (q : Int) := by omega
          have hy5 : (q : Int) < 11 := by omega
          have HN : Aside0 (impl_Train_hole.l2 l0_2 st P (P - q) = if bt = true then q else impl_Train_hole.l2 l0_2 st P (P - (q + 1))) := ⟨by
            obtain ⟨d, hd⟩ : ∃ d, P - q = d + 1 := ⟨P - q - 1, by omega⟩
            rw [hd, impl_Train_hole.l2, show P - (d + 1) = q by omega, hbt, show P - (q + 1) = d by omega]⟩
          clear hnn hbt
          cases bt with
          | false =>
            go_wp2
            go_roundg (P - (q + 1))
            case measure => omega
            case rel => exact ⟨q + 1, by omega, by omega, by omega, congrArg (Value.int .i64) (by omega), ⟨by rw [HM.out, HN.out, if_neg (by decide)]⟩, BG, BT, HB⟩
          | true =>
            go_wp2
            go_ret
            refine ⟨?_, HB.out⟩
            have e : impl_Train_hole.l2 l0_2 st P (P - off) = q := by rw [HM.out, HN.out]; simp
            rw [e, LL.out]
            exact congrArg Ending.returned (congrArg (Value.int .i64) (by omega))
        · have hqP : q = P := by omega
          have hy4 : (0 : Int) ≤ (q : Int) := by omega
          have hy5 : (q : Int) < 12 := by omega
          clear hnn
          go_wp2
          go_ret
          refine ⟨?_, HB.out⟩
          have e : impl_Train_hole.l2 l0_2 st P (P - off) = q := by rw [HM.out, hqP, Nat.sub_self, impl_Train_hole.l2]
          rw [e, LL.out]
          exact congrArg Ending.returned (congrArg (Value.int .i64) (by omega))

end Go.Proofs.Ytklikbjlfaednaa.P

/- Contracts of the functions of the program, each one with its plain Lean function; written by a program of the session out of the translation. -/
import Derived.Test.YtklikbjlfaednaaPx0
import Derived.Test.YtklikbjlfaednaaPx3
import Derived.Test.YtklikbjlfaednaaPx4
import Derived.Test.YtklikbjlfaednaaPx5
namespace Go.Proofs.Ytklikbjlfaednaa.P
open Go.RowKit Go.Proofs.YtklikbjlfaednaaW.PrintWords Go.Proofs.YtklikbjlfaednaaW.PrintLast Go.Proofs.YtklikbjlfaednaaW.PrintMore
attribute [local go_sem] max2_int min2_int max_two min_two max_three min_three max_four min_four   -- for this text's walks alone
set_option linter.unusedVariables false
set_option linter.unusedSimpArgs false

/-! ### impl_Train_freeSeats: function 52, by hand -/

theorem hd_free_snoc (l : List S66) (n on off : Nat) : impl_Train_freeSeats.l1 l (n + 1) on off = if impl_Train_freeSeats.l0 l on off n = true then impl_Train_freeSeats.l1 l n on off else impl_Train_freeSeats.l1 l n on off ++ [(n : Int)] := by
  unfold impl_Train_freeSeats.l1
  rw [List.range_succ, List.filter_append, List.map_append]
  cases h : impl_Train_freeSeats.l0 l on off n <;> simp [h]
theorem hd_free_len (l : List S66) (n on off : Nat) : (impl_Train_freeSeats.l1 l n on off).length ≤ n := by
  unfold impl_Train_freeSeats.l1
  rw [List.length_map]
  exact Nat.le_trans (List.length_filter_le _ _) (by simp)
theorem hd_idx (bs : List Bool) (h : bs.length ≤ 1000) : ∀ d i, bs.length - i ≤ d → i ≤ bs.length → ∃ r, slices_Index_bool_bool.l0 (d + 1) bs true (bs.length : Int) (i : Int) = some r ∧ (decide (r ≥ 0)) = (bs.drop i).any id
  | d, i, hd, hi => by
    by_cases hlt : i < bs.length
    · have hw : wrap64 ((i : Int) + 1) = ((i + 1 : Nat) : Int) := by unfold wrap64; omega
      have e : bs.drop i = bs[i] :: bs.drop (i + 1) := List.drop_eq_getElem_cons hlt
      have er : rdOf false bs (i : Int) = bs[i] := by simp [rdOf, List.getD_eq_getElem?_getD, hlt]
      have f1 : (i : Int) < bs.length := by clear hw; omega
      have f2 : (0 : Int) ≤ i := by clear hw; omega
      rw [e, List.any_cons]
      cases hb : bs[i] with
      | true => exact ⟨i, by simp only [slices_Index_bool_bool.l0, if_pos f1, if_pos f2, er, hb]; rfl, by simp [f2]⟩
      | false =>
        obtain ⟨d', rfl⟩ : ∃ d', d = d' + 1 := ⟨d - 1, by clear hw; omega⟩
        obtain ⟨r, h1, h2⟩ := hd_idx bs h d' (i + 1) (by clear hw; omega) (by clear hw; omega)
        refine ⟨r, ?_, by rw [h2]; simp⟩
        rw [← h1]
        simp only [slices_Index_bool_bool.l0, if_pos f1, if_pos f2, er, hb, hw]
        simp
    · exact ⟨-1, by simp only [slices_Index_bool_bool.l0]; rw [if_neg (by omega)], by rw [List.drop_of_length_le (by omega)]; simp⟩
theorem hd_contains (bs : List Bool) (h : bs.length ≤ 1000) : slices_Contains_bool_bool.f (bs.length + 1) bs true = some (bs.any id) := by
  obtain ⟨r, h1, h2⟩ := hd_idx bs h bs.length 0 (by omega) (Nat.zero_le _)
  unfold slices_Contains_bool_bool.f slices_Index_bool_bool.f
  rw [show slices_Index_bool_bool.l0 (bs.length + 1) bs true (bs.length : Int) 0 = some r from h1, Option.bind_some, h2, List.drop_zero]
theorem hd_cut (L : List Bool) (on m : Nat) (h : on + m ≤ L.length) : (L.drop on).take m = (List.range' on m).map fun p => L.getD p false := by
  apply List.ext_getElem
  · simp; omega
  · intro i h1 h2
    have hi : i < m := by simp at h2; exact h2
    simp [List.getD_eq_getElem?_getD, show on + i < L.length by omega]
theorem hd_info3 : (Try.prog.info? 3).map (fun i => (i.zero, i.size, i.bytes)) = some (some (.int .i64 0), 1, 8) := by kernel_rfl
theorem hd_cut_calls (L : List Bool) (on off gb : Nat) (t : Bool) (w12 : World) (hL : L.length = 11) (h1 : on ≤ off) (h2 : off ≤ 11) (BG : w12.heap[gb]? = some (.cells (L.map Value.bool).toArray 68 (0, 0))) (ht : (List.range' on (off - on)).any (fun p => L.getD p false) = t) :
    Calls Try.prog 72 #[.slice (some ⟨gb, on, none⟩) (off - on) (11 - on), .bool true] w12 fun e w' => e = .returned (.bool t) ∧ Drawn0 w12 w' := by
  have hcut := hd_cut L on (off - on) (by omega)
  have hlen : ((L.drop on).take (off - on)).length = off - on := by simp [hL]; omega
  have hany : ((L.drop on).take (off - on)).any id = t := by rw [hcut, List.any_map, ← ht]; rfl
  obtain ⟨bl, hbl⟩ : ∃ bl, (L.drop on).take (off - on) = bl := ⟨_, rfl⟩
  have hC : Kd.C Kd.bool w12 (some ⟨gb, on, none⟩) bl.length bl := by
    refine Kd.C_of_reads (enc := Value.bool) (d := false) (h1 := fun _ => rfl) ⟨rfl, ?_, fun _ => ⟨_, rfl, fun j hj => ?_⟩⟩
    · rw [← hbl, hlen]; omega
    · rw [← hbl, hlen] at hj
      have e : (⟨gb, on, none⟩ : Addr).add j = ⟨gb, on + j, none⟩ := by simp [Addr.add]
      rw [e, blk_cell BG (on + j), ← hbl]
      simp [List.getD_eq_getElem?_getD, hj, show on + j < L.length by omega]
  have := slices_Contains_bool_bool.calls (bl.length + 1) (some ⟨gb, on, none⟩) (11 - on) bl true _ w12 hC (by rw [← hbl, hlen]; omega) (hd_contains bl (by rw [← hbl, hlen]; omega))
  rw [← hbl, hlen, hany] at this
  exact this

set_option maxRecDepth 20000 in
set_option maxHeartbeats 4000000 in
theorem impl_Train_freeSeats.calls (a0_0 : Int) (a0_1 : Int) (A0_2 : Option Addr) (c0_2 : Nat) (l0_2 : List (S66)) (a1 : Int) (a2 : Int) (r : List Int) (w : World) (hr0_2 : Kd.C k66 w A0_2 l0_2.length l0_2) (hc0_2 : l0_2.length ≤ c0_2) (h : impl_Train_freeSeats.f a0_0 a0_1 l0_2 a1 a2 = some r) :
    Calls Try.prog 52 #[.agg #[.int .i64 a0_0, .int .i64 a0_1, .slice A0_2 l0_2.length c0_2], .int .i64 a1, .int .i64 a2] w fun e w' => ∃ v0_ : Value, e = .returned (v0_) ∧ Kd.R (Kd.int .i64) 3 w' w.heap.size (fun _ => True) v0_ r ∧ Below w.heap.size w w' := by
  have hu29 := Try.underlying29
  have hu66 := Try.underlying66
  have hu68 := Try.underlying68
  have hu76 := Try.underlying76
  have HR := Aside0.mk hr0_2
  have HC := Aside0.mk hc0_2
  clear hr0_2 hc0_2
  have HB := Aside0.mk (Below.refl w.heap.size w)
  unfold impl_Train_freeSeats.f at h
  split at h
  rotate_left
  · exact absurd h (by simp)
  rename_i hcond
  obtain ⟨hok, h0, h1, h2⟩ := hcond
  obtain rfl := Option.some.inj h
  clear h
  obtain ⟨⟨ha0, ha1⟩, hb01, _, _⟩ := hd_train_parts hok
  have OK := Aside0.mk hok
  clear hok
  obtain ⟨n, rfl⟩ : ∃ m : Nat, a0_0 = (m : Int) := ⟨a0_0.toNat, by omega⟩
  obtain ⟨on, rfl⟩ : ∃ m : Nat, a1 = (m : Int) := ⟨a1.toNat, by omega⟩
  obtain ⟨off, rfl⟩ : ∃ m : Nat, a2 = (m : Int) := ⟨a2.toNat, by omega⟩
  simp only [Int.toNat_natCast]
  have NN := Aside0.mk (show (1 ≤ n ∧ n ≤ 60) ∧ on < off ∧ off ≤ 11 by omega)
  clear ha0 ha1 hb01 h0 h1 h2
  go_enter Try.func52, Try.ntmps52
  go_upto_region 2 with (first | ((with_reducible refine gate_dst (N := 10) rfl ?_); refine Kd.R_lit (Kd.int .i64) _ 3 ?hg (N := 10) ?hd (xs := ([] : List Int)) (inner := []) (ok := fun _ => True) (okp := fun _ => True) ?hr ?hp (fun _ hk => hk) trivial (Below.refl _ _) (Nat.le_refl _) (by simp) ?_; (case hd => rfl); (case hg => rfl); (case hr => first | (go_simp; done) | (go_simp; rfl)); (case hp => exact (Reps.none _ _)); intro v177 w9 ho10 hb hg_ hnew_; clear hg_ hnew_; have n0_ := Aside0.mk (Kd.R_lower ho10 (below_size (below_alloc HB.out _))); have n1_ := Aside0.mk (blk_below (blk_new w (Obj.cells #[.int .i64 (n : Int), .int .i64 a0_1, .slice A0_2 l0_2.length c0_2] 29 (0, 0))) hb); have n2_ := Aside0.mk (below_step (below_alloc HB.out _) hb); clear HB; have HO := n0_; have BT := n1_; have HB := n2_; clear n0_ n1_ n2_ hb ho10))
  have hT0 : w9.cell? ⟨w.heap.size, 0, none⟩ = some (.int .i64 (n : Int)) := (blk_cell BT.out 0).trans rfl
  have hT1 : w9.cell? ⟨w.heap.size, 1, none⟩ = some (.int .i64 a0_1) := (blk_cell BT.out 1).trans rfl
  have hT2 : w9.cell? ⟨w.heap.size, 2, none⟩ = some (.slice A0_2 l0_2.length c0_2) := (blk_cell BT.out 2).trans rfl
  go_wp2_with (first | (go_at_call 57; refine (hd_held (n : Int) a0_1 A0_2 c0_2 l0_2 _ (Kd.C_below HR.out HB.out) HC.out OK.out).mono ?_; rintro e w10 hpost; obtain ⟨B, xs, rfl, hBA, hge, hHK, hb10⟩ := hpost; rw [Int.toNat_natCast] at hHK; simp only [Int.toNat_natCast]; have HO2 := Aside0.mk (Kd.R_below HO.out hb10); have HB2 := Aside0.mk (below_step HB.out hb10); have BA := Aside0.mk hBA; have HK := Aside0.mk hHK; clear HO HB BT hT0 hT1 hT2 hBA hge hHK hb10))
  go_loopg [7, 8, 9, 14] n (fun gg s7 _ _ s14 wr => ∃ (kk : Nat), kk ≤ n ∧ n - kk ≤ gg ∧ s14 = .int .i64 kk ∧ Aside0 (Kd.R (Kd.int .i64) 3 wr w.heap.size (fun _ => True) s7 (impl_Train_freeSeats.l1 l0_2 kk on off)) ∧ Aside0 (wr.heap[B]? = some (.cells (xs.map Value.bool).toArray 68 (0, 0))) ∧ Aside0 (Below w.heap.size w wr))
  case atStart => exact ⟨0, Nat.zero_le _, by omega, rfl, HO2, BA, HB2⟩
  case round =>
    clear HO2 BA HB2
    obtain ⟨kk, hkk, hg, rfl, HO, BA, HB⟩ := hrel
    by_cases hlt : kk < n
    · have hltz : (kk : Int) < (n : Int) := by omega
      have hnn : (0 : Int) ≤ (kk : Int) := Int.natCast_nonneg kk
      have hcell : ∀ p, p < 11 → wr.cell? ⟨B, kk * 11 + p, none⟩ = some (.bool (xs.getD (kk * 11 + p) false)) := fun p hp => (blk_cell BA.out (kk * 11 + p)).trans (by
        have := HK.out.1
        simp [List.getD_eq_getElem?_getD, show kk * 11 + p < xs.length by omega])
      obtain ⟨b0, hb0⟩ : ∃ v, xs.getD (kk * 11 + 0) false = v := ⟨_, rfl⟩
      obtain ⟨b1, hb1⟩ : ∃ v, xs.getD (kk * 11 + 1) false = v := ⟨_, rfl⟩
      obtain ⟨b2, hb2⟩ : ∃ v, xs.getD (kk * 11 + 2) false = v := ⟨_, rfl⟩
      obtain ⟨b3, hb3⟩ : ∃ v, xs.getD (kk * 11 + 3) false = v := ⟨_, rfl⟩
      obtain ⟨b4, hb4⟩ : ∃ v, xs.getD (kk * 11 + 4) false = v := ⟨_, rfl⟩
      obtain ⟨b5, hb5⟩ : ∃ v, xs.getD (kk * 11 + 5) false = v := ⟨_, rfl⟩
      obtain ⟨b6, hb6⟩ : ∃ v, xs.getD (kk * 11 + 6) false = v := ⟨_, rfl⟩
      obtain ⟨b7, hb7⟩ : ∃ v, xs.getD (kk * 11 + 7) false = v := ⟨_, rfl⟩
      obtain ⟨b8, hb8⟩ : ∃ v, xs.getD (kk * 11 + 8) false = v := ⟨_, rfl⟩
      obtain ⟨b9, hb9⟩ : ∃ v, xs.getD (kk * 11 + 9) false = v := ⟨_, rfl⟩
      obtain ⟨b10, hb10⟩ : ∃ v, xs.getD (kk * 11 + 10) false = v := ⟨_, rfl⟩
      have hlist : Aside0 (∀ p, p < 11 → ([b0, b1, b2, b3, b4, b5, b6, b7, b8, b9, b10].getD p false) = l0_2.any (impl_TrainOk.l4 kk p)) := ⟨by
        intro p hp
        have h := HK.out.2 kk p hlt hp
        rw [List.take_length] at h
        rw [← h]
        rcases (show p = 0 ∨ p = 1 ∨ p = 2 ∨ p = 3 ∨ p = 4 ∨ p = 5 ∨ p = 6 ∨ p = 7 ∨ p = 8 ∨ p = 9 ∨ p = 10 by omega) with rfl | rfl | rfl | rfl | rfl | rfl | rfl | rfl | rfl | rfl | rfl
        · exact hb0.symm
        · exact hb1.symm
        · exact hb2.symm
        · exact hb3.symm
        · exact hb4.symm
        · exact hb5.symm
        · exact hb6.symm
        · exact hb7.symm
        · exact hb8.symm
        · exact hb9.symm
        · exact hb10.symm⟩
      have hc0 : wr.cell? ⟨B, kk * 11, none⟩ = some (.bool b0) := by rw [← hb0]; exact hcell 0 (by omega)
      have hc1 : wr.cell? ⟨B, kk * 11 + 1, none⟩ = some (.bool b1) := by rw [← hb1]; exact hcell 1 (by omega)
      have hc2 : wr.cell? ⟨B, kk * 11 + 2, none⟩ = some (.bool b2) := by rw [← hb2]; exact hcell 2 (by omega)
      have hc3 : wr.cell? ⟨B, kk * 11 + 3, none⟩ = some (.bool b3) := by rw [← hb3]; exact hcell 3 (by omega)
      have hc4 : wr.cell? ⟨B, kk * 11 + 4, none⟩ = some (.bool b4) := by rw [← hb4]; exact hcell 4 (by omega)
      have hc5 : wr.cell? ⟨B, kk * 11 + 5, none⟩ = some (.bool b5) := by rw [← hb5]; exact hcell 5 (by omega)
      have hc6 : wr.cell? ⟨B, kk * 11 + 6, none⟩ = some (.bool b6) := by rw [← hb6]; exact hcell 6 (by omega)
      have hc7 : wr.cell? ⟨B, kk * 11 + 7, none⟩ = some (.bool b7) := by rw [← hb7]; exact hcell 7 (by omega)
      have hc8 : wr.cell? ⟨B, kk * 11 + 8, none⟩ = some (.bool b8) := by rw [← hb8]; exact hcell 8 (by omega)
      have hc9 : wr.cell? ⟨B, kk * 11 + 9, none⟩ = some (.bool b9) := by rw [← hb9]; exact hcell 9 (by omega)
      have hc10 : wr.cell? ⟨B, kk * 11 + 10, none⟩ = some (.bool b10) := by rw [← hb10]; exact hcell 10 (by omega)
      clear hcell hb0 hb1 hb2 hb3 hb4 hb5 hb6 hb7 hb8 hb9 hb10
      have hnn2 := NN.out
      go_upto_region 5 with (fail)
      have n0_ := Aside0.mk (blk_new wr (Obj.cells #[.bool b0, .bool b1, .bool b2, .bool b3, .bool b4, .bool b5, .bool b6, .bool b7, .bool b8, .bool b9, .bool b10] 68 (0, 0)))
      have n1_ := Aside0.mk (blk_alloc BA.out (Obj.cells #[.bool b0, .bool b1, .bool b2, .bool b3, .bool b4, .bool b5, .bool b6, .bool b7, .bool b8, .bool b9, .bool b10] 68 (0, 0)))
      have n2_ := Aside0.mk (Kd.R_alloc HO.out (Obj.cells #[.bool b0, .bool b1, .bool b2, .bool b3, .bool b4, .bool b5, .bool b6, .bool b7, .bool b8, .bool b9, .bool b10] 68 (0, 0)))
      have n3_ := Aside0.mk (below_alloc HB.out (Obj.cells #[.bool b0, .bool b1, .bool b2, .bool b3, .bool b4, .bool b5, .bool b6, .bool b7, .bool b8, .bool b9, .bool b10] 68 (0, 0)))
      clear BA HO HB hc0 hc1 hc2 hc3 hc4 hc5 hc6 hc7 hc8 hc9 hc10
      generalize wr.alloc (Obj.cells #[.bool b0, .bool b1, .bool b2, .bool b3, .bool b4, .bool b5, .bool b6, .bool b7, .bool b8, .bool b9, .bool b10] 68 (0, 0)) = w12 at n0_ n1_ n2_ n3_ ⊢
      generalize wr.heap.size = gb at n0_ ⊢
      have BG := n0_
      have BA := n1_
      have HO := n2_
      have HB := n3_
      clear n0_ n1_ n2_ n3_
      have s0 : (0 : Int) ≤ on := by omega
      have s1 : (on : Int) ≤ off := by omega
      have s2 : (off : Int) ≤ 11 := by omega
      obtain ⟨t, ht⟩ : ∃ t, impl_Train_freeSeats.l0 l0_2 on off kk = t := ⟨_, rfl⟩
      have hC := hd_cut_calls [b0, b1, b2, b3, b4, b5, b6, b7, b8, b9, b10] on off gb t w12 rfl (by omega) (by omega) BG.out (by
        rw [← ht]
        unfold impl_Train_freeSeats.l0
        rw [Bool.eq_iff_iff, List.any_eq_true, List.any_eq_true]
        constructor
        · intro ⟨p, hp, hb⟩
          have hp2 := List.mem_range'_1.1 hp
          exact ⟨p, hp, by rw [← hlist.out p (by omega)]; exact hb⟩
        · intro ⟨p, hp, hb⟩
          have hp2 := List.mem_range'_1.1 hp
          exact ⟨p, hp, by rw [hlist.out p (by omega)]; exact hb⟩)
      have HC2 := Aside0.mk hC
      have HT := Aside0.mk ht
      have hl60 : Aside0 ((impl_Train_freeSeats.l1 l0_2 kk on off).length ≤ kk) := ⟨hd_free_len _ _ _ _⟩
      clear hC ht hlist
      cases t with
      | true =>
        go_wp2_with (go_at_call 72; refine HC2.out.mono ?_; rintro e w' ⟨rfl, ⟨nd, rfl⟩⟩)
        go_roundg (n - (kk + 1))
        case measure => omega
        case rel => exact ⟨kk + 1, by omega, by omega, congrArg (Value.int .i64) (by omega), ⟨by rw [hd_free_snoc, if_pos HT.out]; exact Kd.R_drewN HO.out nd⟩, ⟨blk_drewN BA.out nd⟩, ⟨pw_below_drewN HB.out nd⟩⟩
      | false =>
        go_wp2_with (first | (go_at_call 72; refine HC2.out.mono ?_; rintro e w' ⟨rfl, ⟨nd, rfl⟩⟩) | ((with_reducible refine gate_builtin (b := .append) (xs := #[.tmp 24, .tmp 26]) rfl ?_); at_builtin; refine Kd.R_append (Kd.int .i64) (w0 := w) w.heap.size rfl (.tmp 24) (.tmp 26) 33 3 (.int .i64 0) 8 rfl Try.underlying33 hd_info3 rfl (by decide) (by omega) u7 (impl_Train_freeSeats.l1 l0_2 kk on off) (kk : Int) [.int .i64 (kk : Int)] (fun _ => True) (fun _ => False) rfl rfl ?aP (fun _ hk => hk.elim) ?aF ?aO ?aB ?aS ?aL ?_; (case aP => exact rfl); (case aB => exact (by repeat (first | (with_reducible first | exact HB.out | apply below_alloc | apply pw_below_drewN | apply below_drew1) | exact HB.out))); (case aF => exact (fun _ _ => trivial)); (case aO => exact (by (with_reducible repeat (first | apply Kd.R_alloc | apply Kd.R_drewN | apply Kd.R_drew)); exact HO.out)); (case aS => exact (below_size (by repeat (first | (with_reducible first | exact HB.out | apply below_alloc | apply pw_below_drewN | apply below_drew1) | exact HB.out)))); (case aL => have := hl60.out; omega); intro v181 w22 ho hb hg hat; have n0_ := Aside0.mk (blk_grown (g := B) (by (with_reducible repeat (first | refine blk_drewN ?_ _ | refine blk_drew ?_ | refine blk_alloc ?_ _)); exact BA.out) hg (Kd.R_ne HO.out BA.out (by decide))); have n1_ := Aside0.mk hb; have n2_ := Aside0.mk ho; clear BA HB HO; have BA := n0_; have HB := n1_; have HO := n2_; clear n0_ n1_ n2_ ho hb hg hat))
        go_roundg (n - (kk + 1))
        case measure => omega
        case rel => exact ⟨kk + 1, by omega, by omega, congrArg (Value.int .i64) (by omega), ⟨by rw [hd_free_snoc, if_neg (by rw [HT.out]; decide)]; exact HO.out⟩, BA, HB⟩
    · have hltz : ¬ (kk : Int) < (n : Int) := by omega
      have hkn : kk = n := by omega
      go_wp2
      go_ret
      exact ⟨_, rfl, by rw [← hkn]; exact HO.out, HB.out⟩

end Go.Proofs.Ytklikbjlfaednaa.P

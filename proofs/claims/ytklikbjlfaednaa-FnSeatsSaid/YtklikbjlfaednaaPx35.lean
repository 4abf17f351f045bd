/- Contracts of the functions of the program, each one with its plain Lean function; written by a program of the session out of the translation. -/
import Derived.Test.YtklikbjlfaednaaPx0
import Derived.Test.YtklikbjlfaednaaPx2
import Derived.Test.YtklikbjlfaednaaPx3
import Derived.Test.YtklikbjlfaednaaPx4
import Derived.Test.YtklikbjlfaednaaPx6
import Derived.Test.YtklikbjlfaednaaPx8
import Derived.Test.YtklikbjlfaednaaPx10
import Derived.Test.YtklikbjlfaednaaPx34
namespace Go.Proofs.Ytklikbjlfaednaa.P
open Go.RowKit Go.Proofs.YtklikbjlfaednaaW.PrintWords Go.Proofs.YtklikbjlfaednaaW.PrintLast Go.Proofs.YtklikbjlfaednaaW.PrintMore
attribute [local go_sem] max2_int min2_int max_two min_two max_three min_three max_four min_four   -- for this text's walks alone
set_option linter.unusedVariables false
set_option linter.unusedSimpArgs false

/-! ### impl_Train_book: function 67, by hand -/

theorem hd_at_le (id : Int) : ∀ l : List S66, impl_Book.l2 id l ≤ l.length
  | [] => Nat.le_refl _
  | o :: t => by
    unfold impl_Book.l2
    have := hd_at_le id t
    split
    · simp only [List.length_cons]; omega
    · exact Nat.zero_le _
def hd_BookPost (w0 w : World) (B : Nat) (a b : Int) (own : Option Nat) (r : List S66 × Int) (e : Ending) (w' : World) : Prop :=
  ∃ v', e = .returned (.int .i64 r.2) ∧ w'.heap[B]? = some (.cells #[.int .i64 a, .int .i64 b, v'] 29 (0, 0)) ∧ Kd.R k66 66 w' w0.heap.size (fun _ => True) v' r.1 ∧ Below w0.heap.size w0 w' ∧ (∀ k, k < w.heap.size → k ≠ B → some k ≠ own → w'.heap[k]? = w.heap[k]?)
theorem hd_insert (base : Nat) (A : Option Addr) (c : Nat) (l : List S66) (i gv : Nat) (y : S66) (w : World) (hi : i ≤ l.length) (hl : l.length ≤ 1000000) (hbase : base ≤ w.heap.size) (ho : w.ownsRow base 66 4 (.slice A l.length c) l.length (flat66 l)) (hv : w.heap[gv]? = some (.cells (cells66 y).toArray 66 (0, 0))) (hne : some gv ≠ (Value.slice A l.length c).ownBlock) :
    Calls Try.prog 78 #[.slice A l.length c, .int .i64 (i : Int), .slice (some ⟨gv, 0, none⟩) 1 1] w fun e w' => ∃ v', e = .returned v' ∧ w'.ownsRow base 66 4 v' (l.length + 1) (flat66 (impl_Book.l5 l i y)) ∧ w.grownBy w' (Value.slice A l.length c).ownBlock := by
  by_cases h : i = l.length
  · subst h; exact hd_insert_end base A c l gv y w hl hbase ho hv
  · rcases ho.2 with ⟨_, h0⟩ | ⟨g, cap, cur, hvv, hbg, hgg, hnc, hcm, hcs, htake⟩
    · omega
    · injection hvv with hA _ hcap
      subst hA; subst hcap
      by_cases hroom : l.length + 1 ≤ c
      · exact hd_insert_room base g c l i gv y w (by omega) hl hroom ho hv (fun e => hne (by rw [e]; rfl))
      · obtain rfl : c = l.length := by omega
        exact hd_insert_grow base g l i gv y w (by omega) hl hbase ho hv
theorem hd_int_at {w : World} {A : Option Addr} {xs : List Int} (h : Kd.C (Kd.int .i64) w A xs.length xs) (i : Nat) (hi : i < xs.length) : ∃ ad, A = some ad ∧ w.cell? (ad.add i) = some (.int .i64 xs[i]) := by
  obtain ⟨ad, c, e, _, hK, hc⟩ := Kd.C_get h 0 (i : Int) (by omega) (by omega)
  have hK : c = [.int .i64 (xs.getD (i : Int).toNat 0)] := hK
  subst hK
  have := hc 0 _ rfl
  refine ⟨ad, e, ?_⟩
  have e1 : (Kd.int .i64).sz = 1 := rfl
  rw [e1, Nat.mul_one, Nat.add_zero, Int.toNat_natCast] at this
  rw [this]
  simp [List.getD_eq_getElem?_getD, hi]
theorem hd_own_slice {w : World} {base n : Nat} {v : Value} {xs : List Value} (h : w.ownsRow base 66 4 v (n + 1) xs) : ∃ A c, v = .slice A (n + 1) c := by
  rcases h.2 with ⟨_, h0⟩ | ⟨g, cap, cur, rfl, _⟩
  · omega
  · exact ⟨_, _, rfl⟩
theorem hd_sold (w0 w wr w5 : World) (B : Nat) (a b id x y bst : Int) (A : Option Addr) (c : Nat) (l : List S66) (jj : Nat) (A5 : Option Addr) (c5 : Nat) (hjj : jj ≤ l.length) (HB : Below w0.heap.size w0 w) (GE : w0.heap.size ≤ B) (BK : w.heap[B]? = some (.cells #[.int .i64 a, .int .i64 b, .slice A l.length c] 29 (0, 0)))
    (HO : Kd.R k66 66 w w0.heap.size (fun _ => True) (.slice A l.length c) l) (HWr : Below w.heap.size w wr) (OKB : impl_Book.l4 a b l id x y = true) (AT : impl_Book.l2 id l = jj) (BST : impl_Book.l3 a b l x y = bst)
    (OW : w5.ownsRow w0.heap.size 66 4 (.slice A5 (l.length + 1) c5) (l.length + 1) (flat66 (impl_Book.l5 l jj ⟨id, bst, x, y⟩))) (BK5 : w5.heap[B]? = some (.cells #[.int .i64 a, .int .i64 b, .slice A l.length c] 29 (0, 0)))
    (G5 : (wr.alloc (Obj.cells #[.int .i64 id, .int .i64 bst, .int .i64 x, .int .i64 y] 66 (0, 0))).grownBy w5 (Value.slice A l.length c).ownBlock) :
    hd_BookPost w0 w B a b (Value.slice A l.length c).ownBlock (impl_Book.l6 a b l id x y) (.returned (.int .i64 bst)) (w5.setCell ⟨B, 2, none⟩ (.slice A5 (l.length + 1) c5)) := by
  have HA := below_alloc HWr (Obj.cells #[.int .i64 id, .int .i64 bst, .int .i64 x, .int .i64 y] 66 (0, 0))
  have hl6 : impl_Book.l6 a b l id x y = (impl_Book.l5 l jj ⟨id, bst, x, y⟩, bst) := by
    unfold impl_Book.l6
    rw [if_pos OKB, AT, BST]
  have hown : ∀ k, (Value.slice A l.length c).ownBlock = some k → w0.heap.size ≤ k := fun k hk => (World.ownsRow.lt (hd_R66 HO) k hk).1
  have H5 : Below w0.heap.size w0 w5 := (HB.trans (HA.mono HB.size)).grown G5 (Nat.le_trans HB.size HA.size) hown
  have hne := own_ne (g := B) OW BK5 (by decide)
  rw [hl6]
  refine ⟨_, rfl, blk_put BK5 2 _ rfl, ?_, H5.setCell GE _, fun k hk hkB hko => (Below.heap_setCell _ _ _ k hkB).trans ((G5.block k (Nat.lt_of_lt_of_le hk HA.size) hko).trans (HA.block k hk))⟩
  refine hd_R66_mk ?_
  rw [hd_put_length l jj _ hjj]
  exact own_move OW (fun k hk => Below.heap_setCell _ _ _ k (fun e => hne (by rw [hk]; exact congrArg some e.symm)))
set_option maxHeartbeats 8000000 in
set_option maxRecDepth 100000 in
theorem hd_book (w0 w : World) (B : Nat) (a b id x y : Int) (A : Option Addr) (c : Nat) (l : List S66) (ht : impl_TrainOk.l0 a b l = true) (hB : w.heap[B]? = some (.cells #[.int .i64 a, .int .i64 b, .slice A l.length c] 29 (0, 0))) (ho : Kd.R k66 66 w w0.heap.size (fun _ => True) (.slice A l.length c) l) (hb : Below w0.heap.size w0 w) (hge : w0.heap.size ≤ B) :
    Calls Try.prog 67 #[.pointer (some ⟨B, 0, none⟩), .int .i64 id, .int .i64 x, .int .i64 y] w (hd_BookPost w0 w B a b (Value.slice A l.length c).ownBlock (impl_Book.l6 a b l id x y)) := by
  have hu29 := Try.underlying29
  have hu66 := Try.underlying66
  obtain ⟨A', c', hv, hlc, hr⟩ := Kd.R_reads ho
  injection hv with hv1 _ hv3
  subst hv1; subst hv3
  have HR := Aside0.mk hr
  have HO := Aside0.mk ho
  have HB := Aside0.mk hb
  have BK := Aside0.mk hB
  have GE := Aside0.mk hge
  have HC := Aside0.mk hlc
  have HT := Aside0.mk ht
  have HW := Aside0.mk (Below.refl w.heap.size w)
  have hc0 : w.cell? ⟨B, 0, none⟩ = some (.int .i64 a) := (blk_cell hB 0).trans rfl
  have hc1 : w.cell? ⟨B, 1, none⟩ = some (.int .i64 b) := (blk_cell hB 1).trans rfl
  have hc2 : w.cell? ⟨B, 2, none⟩ = some (.slice A l.length c) := (blk_cell hB 2).trans rfl
  obtain ⟨⟨ha0, ha1⟩, ⟨hb0, hb1⟩, hl200, _⟩ := hd_train_parts ht
  have TP := Aside0.mk (show (1 ≤ a ∧ a ≤ 60) ∧ (1 ≤ b ∧ b ≤ 11) ∧ l.length ≤ 200 by omega)
  clear hr ho hb hB hge hlc ht ha0 ha1 hb0 hb1 hl200
  -- what is told where nothing is sold
  have NO : Aside0 (impl_Book.l4 a b l id x y = false → ∀ W : World, Below w.heap.size w W → hd_BookPost w0 w B a b (Value.slice A l.length c).ownBlock (impl_Book.l6 a b l id x y) (.returned (.int .i64 (-1))) W) := ⟨fun h W hW => by
    unfold impl_Book.l6
    rw [h]
    exact ⟨_, rfl, blk_below BK.out hW, Kd.R_below HO.out hW, HB.out.trans (hW.mono HB.out.size), fun k hk _ _ => hW.block k hk⟩⟩
  by_cases k1 : id ≤ 0
  · have F := Aside0.mk (show impl_Book.l4 a b l id x y = false by unfold impl_Book.l4; rw [decide_eq_false (show ¬ 0 < id by omega)]; rfl)
    go_enter Try.func67, Try.ntmps67
    go_wp2
    go_ret
    exact NO.out F.out _ HW.out
  · have hk1 : decide (id ≤ 0) = false := decide_eq_false k1
    have K1 := Aside0.mk k1
    clear k1
    obtain ⟨bi, hbi⟩ : ∃ bi, impl_Unbook.l1 l id = bi := ⟨_, rfl⟩
    have BI := Aside0.mk hbi
    clear hbi
    have hbk := Aside0.mk (fun W (hW : Below w.heap.size w W) => hd_booked a b A c l id W (Kd.C_below HR.out hW))
    rw [BI.out] at hbk
    by_cases k2 : 0 ≤ bi
    · have F := Aside0.mk (show impl_Book.l4 a b l id x y = false by unfold impl_Book.l4; rw [BI.out, decide_eq_false (show ¬ bi < 0 by omega), Bool.and_false]; rfl)
      go_enter Try.func67, Try.ntmps67
      go_wp2_with (go_at_call 73; refine (hbk.out _ HW.out).mono ?_; rintro e w1 ⟨rfl, hb1⟩; have n0_ := Aside0.mk (below_step HW.out hb1); clear HW; have HW := n0_; clear n0_ hb1)
      go_ret
      exact NO.out F.out _ HW.out
    · have hk2 : decide (0 ≤ bi) = false := decide_eq_false k2
      have K2 := Aside0.mk k2
      clear k2
      obtain ⟨br, hbr⟩ : ∃ br, decide (0 ≤ x ∧ x < y ∧ y ≤ b) = br := ⟨_, rfl⟩
      have HRI := Aside0.mk (show impl_Train_ride.f a b l x y = some br by rw [hd_ride, hbr])
      have RI0 := Aside0.mk hbr
      clear hbr
      cases br with
      | false =>
        have F := Aside0.mk (show impl_Book.l4 a b l id x y = false by unfold impl_Book.l4; rw [RI0.out, Bool.and_false]; rfl)
        go_enter Try.func67, Try.ntmps67
        go_wp2_with (first | (go_at_call 73; refine (hbk.out _ HW.out).mono ?_; rintro e w1 ⟨rfl, hb1⟩; have n0_ := Aside0.mk (below_step HW.out hb1); clear HW hc0 hc1 hc2; have HW := n0_; clear n0_ hb1; have hc0 : w1.cell? ⟨B, 0, none⟩ = some (.int .i64 a) := (blk_cell (blk_below BK.out HW.out) 0).trans rfl; have hc1 : w1.cell? ⟨B, 1, none⟩ = some (.int .i64 b) := (blk_cell (blk_below BK.out HW.out) 1).trans rfl; have hc2 : w1.cell? ⟨B, 2, none⟩ = some (.slice A l.length c) := (blk_cell (blk_below BK.out HW.out) 2).trans rfl) | (go_at_call 48; refine (impl_Train_ride.calls a b A c l x y false _ (Kd.C_below HR.out HW.out) HC.out HRI.out).mono ?_; rintro e w2 ⟨rfl, hb2⟩))
        go_ret
        exact NO.out F.out _ (below_step HW.out hb2)
      | true =>
        have RI := Aside0.mk (of_decide_eq_true RI0.out)
        by_cases k4 : l.length = 200
        · have F := Aside0.mk (show impl_Book.l4 a b l id x y = false by unfold impl_Book.l4; rw [decide_eq_true k4, Bool.not_true, Bool.and_false]; rfl)
          have K4 := Aside0.mk k4
          have hk4 : (l.length : Int) = 200 := by omega
          clear k4
          go_enter Try.func67, Try.ntmps67
          go_wp2_with (first | (go_at_call 73; refine (hbk.out _ HW.out).mono ?_; rintro e w1 ⟨rfl, hb1⟩; have n0_ := Aside0.mk (below_step HW.out hb1); clear HW hc0 hc1 hc2; have HW := n0_; clear n0_ hb1; have hc0 : w1.cell? ⟨B, 0, none⟩ = some (.int .i64 a) := (blk_cell (blk_below BK.out HW.out) 0).trans rfl; have hc1 : w1.cell? ⟨B, 1, none⟩ = some (.int .i64 b) := (blk_cell (blk_below BK.out HW.out) 1).trans rfl; have hc2 : w1.cell? ⟨B, 2, none⟩ = some (.slice A l.length c) := (blk_cell (blk_below BK.out HW.out) 2).trans rfl) | (go_at_call 48; refine (impl_Train_ride.calls a b A c l x y true _ (Kd.C_below HR.out HW.out) HC.out HRI.out).mono ?_; rintro e w2 ⟨rfl, hb2⟩; have n0_ := Aside0.mk (below_step HW.out hb2); clear HW hc0 hc1 hc2; have HW := n0_; clear n0_ hb2; have hc0 : w2.cell? ⟨B, 0, none⟩ = some (.int .i64 a) := (blk_cell (blk_below BK.out HW.out) 0).trans rfl; have hc1 : w2.cell? ⟨B, 1, none⟩ = some (.int .i64 b) := (blk_cell (blk_below BK.out HW.out) 1).trans rfl; have hc2 : w2.cell? ⟨B, 2, none⟩ = some (.slice A l.length c) := (blk_cell (blk_below BK.out HW.out) 2).trans rfl))
          go_ret
          exact NO.out F.out _ HW.out
        · have K4 := Aside0.mk k4
          have hk4 : ¬ (l.length : Int) = 200 := by omega
          clear k4
          have hfs : impl_Train_freeSeats.f a b l x y = some (impl_Train_freeSeats.l1 l a.toNat x.toNat y.toNat) := by
            unfold impl_Train_freeSeats.f
            rw [if_pos ⟨HT.out, RI.out⟩]
          obtain ⟨fs, hfse⟩ : ∃ fs, impl_Train_freeSeats.l1 l a.toNat x.toNat y.toNat = fs := ⟨_, rfl⟩
          have hin : ∀ s, s ∈ fs → 0 ≤ s ∧ s < a := fun s hs => by
            rw [← hfse] at hs
            unfold impl_Train_freeSeats.l1 at hs
            obtain ⟨q, hq, rfl⟩ := List.mem_map.1 hs
            have := List.mem_range.1 (List.mem_filter.1 hq).1
            have := TP.out
            omega
          have hshort : fs.length ≤ 60 := by
            rw [← hfse]
            unfold impl_Train_freeSeats.l1
            rw [List.length_map]
            refine Nat.le_trans (List.length_filter_le _ _) ?_
            rw [List.length_range]
            have := TP.out
            omega
          rw [hfse] at hfs
          have FS := Aside0.mk hfs
          have IN := Aside0.mk hin
          have SH := Aside0.mk hshort
          have FSE := Aside0.mk hfse
          clear hfs hin hshort hfse
          go_enter Try.func67, Try.ntmps67
          go_upto_region 4 with (first | (go_at_call 73; refine (hbk.out _ HW.out).mono ?_; rintro e w1 ⟨rfl, hb1⟩; have n0_ := Aside0.mk (below_step HW.out hb1); clear HW hc0 hc1 hc2; have HW := n0_; clear n0_ hb1; have hc0 : w1.cell? ⟨B, 0, none⟩ = some (.int .i64 a) := (blk_cell (blk_below BK.out HW.out) 0).trans rfl; have hc1 : w1.cell? ⟨B, 1, none⟩ = some (.int .i64 b) := (blk_cell (blk_below BK.out HW.out) 1).trans rfl; have hc2 : w1.cell? ⟨B, 2, none⟩ = some (.slice A l.length c) := (blk_cell (blk_below BK.out HW.out) 2).trans rfl) | (go_at_call 48; refine (impl_Train_ride.calls a b A c l x y true _ (Kd.C_below HR.out HW.out) HC.out HRI.out).mono ?_; rintro e w2 ⟨rfl, hb2⟩; have n0_ := Aside0.mk (below_step HW.out hb2); clear HW hc0 hc1 hc2; have HW := n0_; clear n0_ hb2; have hc0 : w2.cell? ⟨B, 0, none⟩ = some (.int .i64 a) := (blk_cell (blk_below BK.out HW.out) 0).trans rfl; have hc1 : w2.cell? ⟨B, 1, none⟩ = some (.int .i64 b) := (blk_cell (blk_below BK.out HW.out) 1).trans rfl; have hc2 : w2.cell? ⟨B, 2, none⟩ = some (.slice A l.length c) := (blk_cell (blk_below BK.out HW.out) 2).trans rfl))
          clear hbk hk1 hk2 hk4
          go_wp2_with (go_at_call 52; refine (impl_Train_freeSeats.calls a b A c l x y fs _ (Kd.C_below HR.out HW.out) HC.out FS.out).mono ?_; rintro e w3 ⟨vs, rfl, hvs, hb3⟩; obtain ⟨As, cs, es, hcs, hCs⟩ := Kd.R_reads hvs; subst es; have n0_ := Aside0.mk (below_step HW.out hb3); have CS := Aside0.mk hCs; have W3 := Aside0.mk (Below.refl w3.heap.size w3); clear HW hc0 hc1 hc2 hvs hCs hcs hb3; have HW := n0_; clear n0_)
          go_loopg [9, 10, 12, 13, 49] fs.length (fun gg s9 s10 _ _ s49 wr => ∃ (kk : Nat) (bst lst : Int), kk ≤ fs.length ∧ fs.length - kk ≤ gg ∧ s9 = .int .i64 bst ∧ s10 = .int .i64 lst ∧ s49 = .int .i64 kk ∧ Aside0 (impl_Book.l0 (impl_Book.l1 a b l x y) (fs.drop kk) bst lst = impl_Book.l0 (impl_Book.l1 a b l x y) fs (-1) 0) ∧ Aside0 (Below w3.heap.size w3 wr))
          case atStart => exact ⟨0, -1, 0, Nat.zero_le _, by omega, rfl, rfl, rfl, ⟨by rw [List.drop_zero]⟩, W3⟩
          case round =>
            clear W3
            obtain ⟨kk, bst, lst, hkk, hg, rfl, rfl, rfl, LP, W3⟩ := hrel
            have HWr := Aside0.mk (below_step HW.out W3.out)
            have hc0 : wr.cell? ⟨B, 0, none⟩ = some (.int .i64 a) := (blk_cell (blk_below BK.out HWr.out) 0).trans rfl
            have hc1 : wr.cell? ⟨B, 1, none⟩ = some (.int .i64 b) := (blk_cell (blk_below BK.out HWr.out) 1).trans rfl
            have hc2 : wr.cell? ⟨B, 2, none⟩ = some (.slice A l.length c) := (blk_cell (blk_below BK.out HWr.out) 2).trans rfl
            by_cases hlt : kk < fs.length
            · have hltz : (kk : Int) < (fs.length : Int) := by omega
              have hnn : (0 : Int) ≤ (kk : Int) := Int.natCast_nonneg kk
              have hsh : fs.length ≤ 60 := SH.out
              obtain ⟨ad, e, hx0⟩ := hd_int_at CS.out kk hlt
              subst e
              replace hx0 := (W3.out.cell (World.block_lt_of_cell? w3 _ hx0)).trans hx0
              have hdr : fs.drop kk = fs[kk] :: fs.drop (kk + 1) := List.drop_eq_getElem_cons hlt
              have hsi := IN.out fs[kk] (List.getElem_mem hlt)
              obtain ⟨s, hs⟩ : ∃ s, fs[kk] = s := ⟨_, rfl⟩
              rw [hs] at hx0 hdr hsi
              obtain ⟨hv, hhv⟩ : ∃ hv, impl_Book.l1 a b l x y s = hv := ⟨_, rfl⟩
              have HH := Aside0.mk (show impl_Train_hole.f a b l s x y = some hv by
                unfold impl_Train_hole.f
                have := RI.out
                have := TP.out
                rw [if_pos ⟨HT.out, hsi, by omega, by omega, by omega, by omega⟩, ← hhv]
                rfl)
              have LP2 := Aside0.mk (show impl_Book.l0 (impl_Book.l1 a b l x y) (fs.drop (kk + 1)) (if bst < 0 ∨ hv < lst then s else bst) (if bst < 0 ∨ hv < lst then hv else lst) = impl_Book.l0 (impl_Book.l1 a b l x y) fs (-1) 0 by
                rw [← LP.out, hdr, impl_Book.l0, hhv]
                split <;> rfl)
              clear hdr hs hhv hsi
              by_cases c1 : bst < 0
              · go_wp2_with (go_at_call 56; refine (impl_Train_hole.calls a b A c l s x y hv _ (Kd.C_below HR.out HWr.out) HC.out HH.out).mono ?_; rintro e w4 ⟨rfl, hb4⟩; have n0_ := Aside0.mk (below_step W3.out hb4); clear W3 hx0 HWr hc0 hc1 hc2; have W3 := n0_; clear n0_ hb4)
                go_roundg (fs.length - (kk + 1))
                case measure => omega
                case rel =>
                  refine ⟨kk + 1, s, hv, by omega, by omega, rfl, rfl, by go_num, ⟨?_⟩, W3⟩
                  have h := LP2.out
                  rw [if_pos (Or.inl c1), if_pos (Or.inl c1)] at h
                  exact h
              · by_cases c2 : hv < lst
                · have c1b : decide (bst < 0) = false := decide_eq_false c1
                  go_wp2_with (go_at_call 56; refine (impl_Train_hole.calls a b A c l s x y hv _ (Kd.C_below HR.out HWr.out) HC.out HH.out).mono ?_; rintro e w4 ⟨rfl, hb4⟩; have n0_ := Aside0.mk (below_step W3.out hb4); clear W3 hx0 HWr hc0 hc1 hc2; have W3 := n0_; clear n0_ hb4)
                  go_roundg (fs.length - (kk + 1))
                  case measure => omega
                  case rel =>
                    refine ⟨kk + 1, s, hv, by omega, by omega, rfl, rfl, by go_num, ⟨?_⟩, W3⟩
                    have h := LP2.out
                    rw [if_pos (Or.inr c2), if_pos (Or.inr c2)] at h
                    exact h
                · have c1b : decide (bst < 0) = false := decide_eq_false c1
                  have c2b : decide (hv < lst) = false := decide_eq_false c2
                  go_wp2_with (go_at_call 56; refine (impl_Train_hole.calls a b A c l s x y hv _ (Kd.C_below HR.out HWr.out) HC.out HH.out).mono ?_; rintro e w4 ⟨rfl, hb4⟩; have n0_ := Aside0.mk (below_step W3.out hb4); clear W3 hx0 HWr hc0 hc1 hc2; have W3 := n0_; clear n0_ hb4)
                  go_roundg (fs.length - (kk + 1))
                  case measure => omega
                  case rel =>
                    refine ⟨kk + 1, bst, lst, by omega, by omega, rfl, rfl, by go_num, ⟨?_⟩, W3⟩
                    have h := LP2.out
                    rw [if_neg (by omega), if_neg (by omega)] at h
                    exact h
            · have hltz : ¬ (kk : Int) < (fs.length : Int) := by omega
              have hkl : kk = fs.length := by omega
              have BST := Aside0.mk (show impl_Book.l3 a b l x y = bst by
                unfold impl_Book.l3
                rw [FSE.out, ← LP.out, hkl, List.drop_length]
                rfl)
              clear LP hkl
              by_cases c1 : bst < 0
              · have F := Aside0.mk (show impl_Book.l4 a b l id x y = false by unfold impl_Book.l4; rw [BST.out, decide_eq_false (show ¬ 0 ≤ bst by omega), Bool.and_false])
                go_wp2
                go_ret
                exact NO.out F.out _ HWr.out
              · have c1b : decide (bst < 0) = false := decide_eq_false c1
                have OKB := Aside0.mk (show impl_Book.l4 a b l id x y = true by
                  unfold impl_Book.l4
                  have h1 := K1.out
                  have h2 := K2.out
                  rw [BST.out, BI.out, RI0.out, decide_eq_true (show 0 < id by omega), decide_eq_true (show bi < 0 by omega), decide_eq_false K4.out, decide_eq_true (show 0 ≤ bst by omega)]
                  rfl)
                go_wp2
                go_loopg [14] l.length (fun gg s14 wj => ∃ jj : Nat, jj ≤ l.length ∧ l.length - jj ≤ gg ∧ s14 = .int .i64 jj ∧ Aside0 (impl_Book.l2 id l = jj + impl_Book.l2 id (l.drop jj)) ∧ Aside0 (Below w.heap.size w wj))
                case atStart => exact ⟨0, Nat.zero_le _, by omega, rfl, ⟨by rw [List.drop_zero, Nat.zero_add]⟩, HWr⟩
                case round =>
                  clear HWr hc0 hc1 hc2
                  obtain ⟨jj, hjj, hg2, rfl, PL, HWr⟩ := hrel
                  have hc0 : wr.cell? ⟨B, 0, none⟩ = some (.int .i64 a) := (blk_cell (blk_below BK.out HWr.out) 0).trans rfl
                  have hc2 : wr.cell? ⟨B, 2, none⟩ = some (.slice A l.length c) := (blk_cell (blk_below BK.out HWr.out) 2).trans rfl
                  have hl200 : l.length ≤ 200 := TP.out.2.2
                  have fin : impl_Book.l2 id l = jj → ∀ W : World, Below w.heap.size w W → W.cell? ⟨B, 2, none⟩ = some (.slice A l.length c) → True := fun _ _ _ _ => trivial
                  clear fin
                  by_cases hlt : jj < l.length
                  · have hltz : (jj : Int) < (l.length : Int) := by omega
                    have hnn : (0 : Int) ≤ (jj : Int) := Int.natCast_nonneg jj
                    obtain ⟨ad, e, hx0, hx1, hx2, hx3⟩ := at_T66 HR.out jj hnn hltz
                    rw [Int.toNat_natCast] at hx0 hx1 hx2 hx3
                    replace hx0 := (HWr.out.cell (World.block_lt_of_cell? w _ hx0)).trans hx0
                    clear hx1 hx2 hx3
                    have hdr : l.drop jj = l[jj] :: l.drop (jj + 1) := List.drop_eq_getElem_cons hlt
                    rw [hd_rd66 l jj hlt] at hx0
                    obtain ⟨o, ho⟩ : ∃ o, l[jj] = o := ⟨_, rfl⟩
                    rw [ho] at hx0 hdr
                    clear ho
                    by_cases d : o.f0 < id
                    · have PL2 := Aside0.mk (show impl_Book.l2 id l = (jj + 1) + impl_Book.l2 id (l.drop (jj + 1)) by
                        rw [PL.out, hdr, impl_Book.l2, if_pos d]; omega)
                      have E := Aside0.mk e
                      rw [e] at hc2
                      clear hdr PL e
                      go_wp2
                      go_roundg (l.length - (jj + 1))
                      case measure => omega
                      case rel => exact ⟨jj + 1, by omega, by omega, by go_num, PL2, HWr⟩
                    · have AT := Aside0.mk (show impl_Book.l2 id l = jj by
                        rw [PL.out, hdr, impl_Book.l2, if_neg d]; rfl)
                      have db : decide (o.f0 < id) = false := decide_eq_false d
                      have E := Aside0.mk e
                      rw [e] at hc2
                      clear hdr PL e
                      go_upto_region 16 with (fail)
                      rw [← E.out] at hc2
                      clear hx0 db d hltz hnn
                      go_wp2_with (go_at_call 78; refine (hd_insert w0.heap.size A c l jj wr.heap.size ⟨id, bst, x, y⟩ _ hjj (by omega) (by have h1 := HB.out.size; have h2 := (below_alloc HWr.out (Obj.cells #[.int .i64 id, .int .i64 bst, .int .i64 x, .int .i64 y] 66 (0, 0))).size; exact Nat.le_trans h1 h2) (hd_R66 (Kd.R_below HO.out (below_alloc HWr.out _))) (blk_new wr _) (fun e => by have h1 := (World.ownsRow.lt (hd_R66 HO.out) _ e.symm).2; have h2 := HWr.out.size; omega)).mono ?_; rintro e5 w5 ⟨v5, rfl, hown5, hg5⟩; obtain ⟨A5, c5, ev5⟩ := hd_own_slice hown5; subst ev5; have OW := Aside0.mk hown5; have BK5 := Aside0.mk (blk_grown (blk_below BK.out (below_alloc HWr.out (Obj.cells #[.int .i64 id, .int .i64 bst, .int .i64 x, .int .i64 y] 66 (0, 0)))) hg5 (Kd.R_ne HO.out BK.out (by decide))); have G5 := Aside0.mk hg5; clear hown5 hg5 hc0 hc2; have hc2 : w5.cell? ⟨B, 2, none⟩ = some (.slice A l.length c) := (blk_cell BK5.out 2).trans rfl; have hf2 := blk_frozen BK5.out 2)
                      go_ret
                      exact hd_sold w0 w wr w5 B a b id x y bst A c l jj A5 c5 hjj HB.out GE.out BK.out HO.out HWr.out OKB.out AT.out BST.out OW.out BK5.out G5.out
                  · have hltz : ¬ (jj : Int) < (l.length : Int) := by omega
                    have hjl : jj = l.length := by omega
                    have AT := Aside0.mk (show impl_Book.l2 id l = jj by
                        rw [PL.out, hjl, List.drop_length]; rfl)
                    clear PL hjl
                    go_upto_region 16 with (fail)
                    clear hltz
                    go_wp2_with (go_at_call 78; refine (hd_insert w0.heap.size A c l jj wr.heap.size ⟨id, bst, x, y⟩ _ hjj (by omega) (by have h1 := HB.out.size; have h2 := (below_alloc HWr.out (Obj.cells #[.int .i64 id, .int .i64 bst, .int .i64 x, .int .i64 y] 66 (0, 0))).size; exact Nat.le_trans h1 h2) (hd_R66 (Kd.R_below HO.out (below_alloc HWr.out _))) (blk_new wr _) (fun e => by have h1 := (World.ownsRow.lt (hd_R66 HO.out) _ e.symm).2; have h2 := HWr.out.size; omega)).mono ?_; rintro e5 w5 ⟨v5, rfl, hown5, hg5⟩; obtain ⟨A5, c5, ev5⟩ := hd_own_slice hown5; subst ev5; have OW := Aside0.mk hown5; have BK5 := Aside0.mk (blk_grown (blk_below BK.out (below_alloc HWr.out (Obj.cells #[.int .i64 id, .int .i64 bst, .int .i64 x, .int .i64 y] 66 (0, 0)))) hg5 (Kd.R_ne HO.out BK.out (by decide))); have G5 := Aside0.mk hg5; clear hown5 hg5 hc0 hc2; have hc2 : w5.cell? ⟨B, 2, none⟩ = some (.slice A l.length c) := (blk_cell BK5.out 2).trans rfl; have hf2 := blk_frozen BK5.out 2)
                    go_ret
                    exact hd_sold w0 w wr w5 B a b id x y bst A c l jj A5 c5 hjj HB.out GE.out BK.out HO.out HWr.out OKB.out AT.out BST.out OW.out BK5.out G5.out

end Go.Proofs.Ytklikbjlfaednaa.P

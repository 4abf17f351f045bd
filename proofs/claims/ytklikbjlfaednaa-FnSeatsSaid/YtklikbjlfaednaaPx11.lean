/- Contracts of the functions of the program, each one with its plain Lean function; written by a program of the session out of the translation. -/
import Derived.Deep.RegionLaw
import Derived.Test.YtklikbjlfaednaaPx0
import Derived.Test.YtklikbjlfaednaaPx10
namespace Go.Proofs.Ytklikbjlfaednaa.P
open Go.RowKit Go.Proofs.YtklikbjlfaednaaW.PrintWords Go.Proofs.YtklikbjlfaednaaW.PrintLast Go.Proofs.YtklikbjlfaednaaW.PrintMore
attribute [local go_sem] max2_int min2_int max_two min_two max_three min_three max_four min_four   -- for this text's walks alone
set_option linter.unusedVariables false
set_option linter.unusedSimpArgs false

/-! ### impl_Train_unbook: function 61, by hand -/

theorem flat66_erase (l : List S66) (i : Nat) : flat66 (l.eraseIdx i) = flat66 (l.take i) ++ flat66 (l.drop (i + 1)) := by
  rw [← flat66_append, List.eraseIdx_eq_take_drop_succ]
set_option maxHeartbeats 4000000 in
set_option maxRecDepth 100000 in
theorem hd_delete (base : Nat) (A : Option Addr) (c : Nat) (l : List S66) (i m : Nat) (w : World) (hn : l.length = i + 1 + m) (hbig : c ≤ 9223372036854775807) (ho : w.ownsRow base 66 4 (.slice A l.length c) l.length (flat66 l)) :
    Calls Try.prog 74 #[.slice A l.length c, .int .i64 (i : Int), .int .i64 ((i : Int) + 1)] w fun e w' => e = .returned (.slice A (i + m) c) ∧ w'.ownsRow base 66 4 (.slice A (i + m) c) (i + m) (flat66 (l.eraseIdx i)) ∧ w.grownBy w' (Value.slice A l.length c).ownBlock := by
  obtain ⟨i0, hi0, hz0, hz1, hz2⟩ := info_parts info66
  rcases ho.2 with ⟨_, h0⟩ | ⟨g, cap, cur, hv, hbg, hgg, hnc, hcm, hcs, htake⟩
  · omega
  · injection hv with hA _ hcap
    subst hA; subst hcap
    rw [hn] at hnc htake ho ⊢
    -- the row behind the move, and behind the clear
    obtain ⟨news, hnews⟩ : ∃ news, news = flat66 (l.drop (i + 1)) := ⟨_, rfl⟩
    have hlen : news.length = m * 4 := by rw [hnews, flat66_length, List.length_drop]; omega
    have hcl : cur.toList.length = c * 4 := by rw [Array.length_toList]; exact hcs
    have hget : ∀ t u, news[t]? = some u → cur[(i + 1) * 4 + t]? = some u := by
      intro t u hu
      have ht : t < m * 4 := by have := (List.getElem?_eq_some_iff.1 hu).1; omega
      rw [hnews, flat66_drop, ← htake, List.getElem?_drop, List.getElem?_take, if_pos (by omega)] at hu
      simpa using hu
    obtain ⟨AD, hAD, hsrc⟩ : ∃ AD : Addr, (if c = i + 1 then some (⟨g, 0, none⟩ : Addr) else some ⟨g, (i + 1) * 4, none⟩) = some AD ∧ Hid (∀ t u, news[t]? = some u → w.drew.cell? (AD.add t) = some u) := by
      by_cases h : c = i + 1
      · refine ⟨⟨g, 0, none⟩, by simp [h], fun t u hu => ?_⟩
        have : news.length = 0 := by omega
        rw [List.length_eq_zero_iff.1 this] at hu
        simp at hu
      · refine ⟨⟨g, (i + 1) * 4, none⟩, by simp [h], fun t u hu => ?_⟩
        rw [Addr.add_lit]
        exact (cell_of_row w g _ cur 66 (0, 0) hgg).trans (hget t u hu)
    obtain ⟨cur1, hcur1⟩ : ∃ cur1, cur1 = (cur.toList.take (i * 4) ++ news ++ cur.toList.drop (i * 4 + news.length)).toArray := ⟨_, rfl⟩
    have hs1 : cur1.size = c * 4 := by
      rw [hcur1]
      simp only [List.size_toArray, List.length_append, List.length_take, List.length_drop, hcl, hlen]
      omega
    have hrun : Hid (∀ ty, (Builtin.append_ #[27, 27] ty #[.slice (some ⟨g, 0, none⟩) i c, .slice (some AD) m (c - (i + 1))]).run Try.prog w.drew = .ok (.slice (some ⟨g, 0, none⟩) (i + m) c) (w.drew.setRow g cur1)) := fun ty => by
      have := run_append_room (P := Try.prog) w.drew 27 ty 66 i0 Try.underlying27 hi0 g i c cur hgg AD m (c - (i + 1)) news (by rw [hlen, hz1]) hsrc.out (by rw [hnews]; exact flat66_one _) (by omega) (by rw [hz1, hlen, hcs]; omega)
      rw [hz1] at this
      rw [this, hcur1]
    obtain ⟨W1, hW1⟩ : ∃ W1, w.drew.setRow g cur1 = W1 := ⟨_, rfl⟩
    rw [hW1] at hrun
    have hg1 : W1.heap[g]? = some (.cells cur1 66 (0, 0)) := by rw [← hW1]; exact setRow_heap w.drew g cur cur1 66 (0, 0) hgg
    have hclr := fun ty => hd_clear66 W1 ty g ((i + m) * 4) (c - (i + m)) cur1 hg1 (by rw [hs1]; omega)
    rw [show (1 : Nat) = i + 1 + m - (i + m) by omega] at hclr
    obtain ⟨cur2, hcur2⟩ : ∃ cur2, cur2 = (cur1.toList.take ((i + m) * 4) ++ [Value.int .i64 0, Value.int .i64 0, Value.int .i64 0, Value.int .i64 0] ++ cur1.toList.drop ((i + m) * 4 + 4)).toArray := ⟨_, rfl⟩
    rw [← hcur2] at hclr
    obtain ⟨W2, hW2⟩ : ∃ W2, W1.setRow g cur2 = W2 := ⟨_, rfl⟩
    rw [hW2] at hclr
    have FIN : Hid (W2.ownsRow base 66 4 (.slice (some ⟨g, 0, none⟩) (i + m) c) (i + m) (flat66 (l.eraseIdx i)) ∧ w.grownBy W2 (Value.slice (some ⟨g, 0, none⟩) (i + 1 + m) c).ownBlock) := by
      have e1 : cur1.toList.take ((i + m) * 4) = flat66 (l.eraseIdx i) := by
        rw [flat66_erase, ← hnews, hcur1, flat66_take, ← htake]
        simp only [List.take_take]
        rw [show min (i * 4) ((i + 1 + m) * 4) = i * 4 by omega, List.take_left']
        simp only [List.length_append, List.length_take, hcl, hlen]
        omega
      have e2 : (flat66 (l.eraseIdx i)).length = (i + m) * 4 := by rw [flat66_length, List.length_eraseIdx, if_pos (by omega)]; omega
      refine ⟨⟨e2, .inr ⟨g, c, cur2, rfl, hbg, ?_, by omega, hcm, ?_, ?_⟩⟩, ⟨by rw [← hW2, ← hW1]; rfl, by rw [← hW2, ← hW1]; rfl, by rw [← hW2, ← hW1]; rfl, by rw [← hW2, ← hW1]; simp [World.setRow], fun k hk hne => ?_⟩⟩
      · rw [← hW2]; exact setRow_heap W1 g cur1 cur2 66 (0, 0) hg1
      · rw [hcur2]
        simp only [List.size_toArray, List.length_append, List.length_take, List.length_drop, Array.length_toList, hs1, List.length_cons, List.length_nil]
        omega
      · rw [hcur2, List.append_assoc, List.take_left' (by rw [List.length_take, Array.length_toList, hs1]; omega), e1]
      · have hkg : k ≠ g := fun e => hne (by rw [e]; rfl)
        rw [← hW2, setRow_other _ _ _ _ hkg, ← hW1, setRow_other _ _ _ _ hkg]
        rfl
    have H2 : Hid (l.length = i + 1 + m) := hn
    clear hW1 hW2 hg1 hcur1 hcur2 hs1 hsrc hget hlen hnews hgg hcs htake hcl ho hn
    have p1 : (i : Int) + 1 ≤ ((i + 1 + m : Nat) : Int) := by omega
    have p2 : ((i : Int) + 1).toNat = i + 1 := by omega
    have p3 : (0 : Int) ≤ (i : Int) + 1 := by omega
    have p7 : (i : Int) + 1 ≤ (i : Int) + 1 + (m : Int) := by omega
    have p4 : ¬ (i : Int) = (i : Int) + 1 := by omega
    have p5 : i ≤ c := by omega
    have p6 : i + 1 ≤ c := by omega
    go_enter Try.func74, Try.ntmps74
    go_wp2_with fail
    go_region_law (refine hd_step_append rfl (.tmp 22) (.tmp 25) rfl (.slice (some ⟨g, 0, none⟩) i c) (.slice (some AD) m (c - (i + 1))) (.slice (some ⟨g, 0, none⟩) (i + m) c) W1 (by simp [Act.eval, Act.put]) (by simp [Act.eval, Act.put]) hrun.out ?_)
    go_wp2
    go_ret
    exact ⟨rfl, FIN.out⟩
theorem idxB_range (l : List S66) (id : Int) : impl_Unbook.l1 l id = -1 ∨ ∃ k : Nat, impl_Unbook.l1 l id = (k : Int) ∧ k < l.length := by
  unfold impl_Unbook.l1
  split
  · rename_i h; exact .inr ⟨_, rfl, h⟩
  · exact .inl rfl
set_option maxHeartbeats 4000000 in
set_option maxRecDepth 100000 in
theorem hd_unbook (w0 w : World) (B : Nat) (a b id : Int) (v : Value) (l : List S66) (hl : l.length ≤ 1000000) (hB : w.heap[B]? = some (.cells #[.int .i64 a, .int .i64 b, v] 29 (0, 0))) (ho : Kd.R k66 66 w w0.heap.size (fun _ => True) v l) (hb : Below w0.heap.size w0 w) (hge : w0.heap.size ≤ B) :
    Calls Try.prog 61 #[.pointer (some ⟨B, 0, none⟩), .int .i64 id] w fun e w' => ∃ v', e = .returned (.bool (decide (0 ≤ impl_Unbook.l1 l id))) ∧ w'.heap[B]? = some (.cells #[.int .i64 a, .int .i64 b, v'] 29 (0, 0)) ∧ Kd.R k66 66 w' w0.heap.size (fun _ => True) v' (impl_Unbook.l0 l id) ∧ Below w0.heap.size w0 w' ∧ (∀ k, k < w.heap.size → k ≠ B → some k ≠ v.ownBlock → w'.heap[k]? = w.heap[k]?) := by
  have hu29 := Try.underlying29
  obtain ⟨A, c, rfl, hlc, hr⟩ := Kd.R_reads ho
  have HR := Aside0.mk hr
  have HO := Aside0.mk ho
  have HB := Aside0.mk hb
  have BK := Aside0.mk hB
  have GE := Aside0.mk hge
  have hc0 : w.cell? ⟨B, 0, none⟩ = some (.int .i64 a) := (blk_cell hB 0).trans rfl
  have hc1 : w.cell? ⟨B, 1, none⟩ = some (.int .i64 b) := (blk_cell hB 1).trans rfl
  have hc2 : w.cell? ⟨B, 2, none⟩ = some (.slice A l.length c) := (blk_cell hB 2).trans rfl
  clear hr ho hb hB hge
  rcases idxB_range l id with hi | ⟨i, hi, hil⟩
  · have HI := Aside0.mk hi
    clear hi
    have hbk := Aside0.mk (fun W hW => hd_booked a b A c l id W hW)
    rw [HI.out] at hbk
    go_enter Try.func61, Try.ntmps61
    go_wp2_with (go_at_call 73; refine (hbk.out _ HR.out).mono ?_; rintro e w1 ⟨rfl, hb1⟩)
    go_ret
    refine ⟨_, by rw [HI.out]; rfl, blk_below BK.out hb1, ?_, HB.out.trans (hb1.mono HB.out.size), fun k hk _ _ => hb1.block k hk⟩
    unfold impl_Unbook.l0
    rw [HI.out, if_pos (by decide)]
    exact Kd.R_below HO.out hb1
  · have HI := Aside0.mk hi
    clear hi
    have hbk := Aside0.mk (fun W hW => hd_booked a b A c l id W hW)
    rw [HI.out] at hbk
    obtain ⟨m, hm⟩ : ∃ m, l.length = i + 1 + m := ⟨l.length - (i + 1), by omega⟩
    have HM := Aside0.mk hm
    have hin : decide ((i : Int) < 0) = false := decide_eq_false (by omega)
    have hib : (i : Int) + 1 ≤ 1000000 := by omega
    have hi0 : (0 : Int) ≤ (i : Int) := by omega
    clear hm
    go_enter Try.func61, Try.ntmps61
    go_upto_region 4 with (go_at_call 73; refine (hbk.out _ HR.out).mono ?_; rintro e w1 ⟨rfl, hb1⟩)
    have n0_ := Aside0.mk (blk_below BK.out hb1)
    have n1_ := Aside0.mk (Kd.R_below HO.out hb1)
    have n2_ := Aside0.mk (HB.out.trans (hb1.mono HB.out.size))
    have n3_ := Aside0.mk hb1
    clear HO HB BK HR hc0 hc1 hc2 hbk hb1
    have hc2 : w1.cell? ⟨B, 2, none⟩ = some (.slice A l.length c) := (blk_cell n0_.out 2).trans rfl
    have hcap : Aside0 (c ≤ 9223372036854775807) := ⟨by
      rcases (hd_R66 n1_.out).2 with ⟨h1, h2⟩ | ⟨_, cap, _, h1, _, _, _, h3, _⟩
      · injection h1 with _ _ h1; omega
      · injection h1 with _ _ h1
        unfold maxLen at h3
        omega⟩
    go_wp2_with (go_at_call 74; refine (hd_delete w0.heap.size A c l i m _ HM.out hcap.out (hd_R66 n1_.out)).mono ?_; rintro e w2 ⟨rfl, hown, hg⟩; have m0_ := Aside0.mk (blk_grown n0_.out hg (Kd.R_ne n1_.out n0_.out (by decide))); have m1_ := Aside0.mk (n2_.out.grown hg n2_.out.size (fun k hk => (World.ownsRow.lt (hd_R66 n1_.out) k hk).1)); have m2_ := Aside0.mk hown; have m3_ := Aside0.mk hg; clear n0_ n1_ n2_ hc2 hown hg hcap; have hc0 := blk_frozen m0_.out 2; have hc2 : w2.cell? ⟨B, 2, none⟩ = some (.slice A l.length c) := (blk_cell m0_.out 2).trans rfl)
    go_ret
    have hmB := blk_put m0_.out 2 (.slice A (i + m) c) rfl
    refine ⟨_, by rw [HI.out, decide_eq_true (by omega)]; rfl, hmB, ?_, m1_.out.setCell GE.out _, fun k hk hkB hko => (Below.heap_setCell _ _ _ k hkB).trans ((m3_.out.block k (Nat.lt_of_lt_of_le hk n3_.out.size) hko).trans (n3_.out.block k hk))⟩
    unfold impl_Unbook.l0
    rw [HI.out, if_neg (by omega), Int.toNat_natCast]
    have hlen : (l.eraseIdx i).length = i + m := by rw [List.length_eraseIdx, if_pos (by have := HM.out; omega), HM.out]; omega
    have hne := own_ne (g := B) m2_.out m0_.out (by decide)
    have hown := own_move (w1 := w2.setCell ⟨B, 2, none⟩ (.slice A (i + m) c)) m2_.out (fun k hk => Below.heap_setCell _ _ _ k (fun e => hne (by rw [hk]; exact congrArg some e.symm)))
    exact hd_R66_mk (by rw [hlen]; exact hown)

end Go.Proofs.Ytklikbjlfaednaa.P

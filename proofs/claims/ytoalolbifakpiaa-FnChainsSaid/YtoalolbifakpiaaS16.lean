/- The program's Fleet: a contract by hand. -/
import Derived.Test.YtoalolbifakpiaaS15
import Derived.Test.YtoalolbifakpiaaPx6
namespace Go.Proofs.Ytoalolbifakpiaa.P
open Go.Proofs Go.Shelf Go.RowKit Go.Sort Go.Proofs.YtoalolbifakpiaaW.PrintWords Go.Proofs.YtoalolbifakpiaaW.PrintLast Go.Proofs.YtoalolbifakpiaaW.PrintMore
set_option linter.unusedVariables false
set_option linter.unusedSimpArgs false

def fl_pl (n i : Nat) (xs : List Int) : Prop := xs.length = n ∧ (∀ j, j < i → xs.getD j 0 = -1)
theorem fl_start (n : Nat) : fl_pl n 0 (List.replicate n 0) := ⟨by simp, fun j h => absurd h (by omega)⟩
theorem fl_step (n i : Nat) (xs : List Int) (h : fl_pl n i xs) (hi : i < n) : fl_pl n (i + 1) (xs.set i (-1)) := by
  refine ⟨by rw [List.length_set]; exact h.1, fun j hj => ?_⟩
  rw [List.getD_eq_getElem?_getD, List.getElem?_set]
  by_cases e : i = j
  · rw [if_pos e, if_pos (by rw [h.1]; omega)]; rfl
  · rw [if_neg e, ← List.getD_eq_getElem?_getD]; exact h.2 j (by omega)
theorem fl_end (n : Nat) (xs : List Int) (h : fl_pl n n xs) : xs = List.replicate n (-1) := by
  apply List.ext_getElem
  · rw [h.1]; simp
  · intro i h1 h2
    have := h.2 i (by rw [← h.1]; exact h1)
    rw [List.getD_eq_getElem?_getD, List.getElem?_eq_getElem h1] at this
    rw [List.getElem_replicate]
    exact this
theorem fl_tasks {k : Nat} {l0 : List S25} (h : impl_TasksOk.f k l0 = some true) : l0.length ≤ 40 := by
  unfold impl_TasksOk.f at h
  split at h
  · simp at h
  · omega
theorem fl_drop (n a : Nat) (h : a < n) : (List.range n).drop a = a :: (List.range n).drop (a + 1) := by
  rw [List.drop_eq_getElem_cons (by simpa using h), List.getElem_range]
theorem hd_info4 : (Try.prog.info? 4).map (fun i => (i.zero, i.size, i.bytes)) = some (some (.bool false), 1, 1) := by kernel_rfl
theorem fl_q : ∀ q, q ∈ 3 :: (Kd.int .i64).E → q ≠ 66 := fun q hq => by
  have : q = 3 := by simpa [Kd.int, Kd.scalar] using hq
  omega
theorem fl_own {d : Kd Int} {W : World} {base : Nat} {ok : Nat → Prop} {g n c : Nat} {xs : List Int} (h : d.R 3 W base ok (.slice (some ⟨g, 0, none⟩) n c) xs) : d.R 3 W base (fun k => k = g) (.slice (some ⟨g, 0, none⟩) n c) xs → True := fun _ => trivial
/-- A flat row's blocks are its own block alone. -/
theorem fl_tight {W : World} {base : Nat} {g n c : Nat} {xs : List Int} (h : Kd.R (Kd.int .i64) 3 W base (fun _ => True) (.slice (some ⟨g, 0, none⟩) n c) xs) : Kd.R (Kd.int .i64) 3 W base (fun k => k = g) (.slice (some ⟨g, 0, none⟩) n c) xs := by
  obtain ⟨_, i, h1, h2⟩ := h
  exact ⟨fun k hk => by simpa [Value.ownBlock] using hk.symm, i, h1, h2⟩
theorem fl_tightb {W : World} {base : Nat} {g n c : Nat} {xs : List Bool} (h : Kd.R Kd.bool 4 W base (fun _ => True) (.slice (some ⟨g, 0, none⟩) n c) xs) : Kd.R Kd.bool 4 W base (fun k => k = g) (.slice (some ⟨g, 0, none⟩) n c) xs := by
  obtain ⟨_, i, h1, h2⟩ := h
  exact ⟨fun k hk => by simpa [Value.ownBlock] using hk.symm, i, h1, h2⟩

set_option maxHeartbeats 32000000 in
set_option maxRecDepth 100000 in
theorem hd_Fleet_main (k : Nat) (A0 : Option Addr) (c0 : Nat) (l0 : List (S25)) (a1 : Int) (r : Int) (w : World) (hr0 : Kd.C k25 w A0 l0.length l0) (hc0 : l0.length ≤ c0) (ht : impl_TasksOk.f k l0 = some true) (ht2 : impl_turnOk.f a1 = some true) (hn : 0 < l0.length) (h : impl_Fleet.l1 l0 a1 k (List.range l0.length) (List.replicate l0.length (-1)) (l0.length : Int) = some r) :
    Calls Try.prog 32 #[.slice A0 l0.length c0, .int .i64 a1] w fun e w' => e = .returned (.int .i64 r) ∧ Go.RowKit.Below w.heap.size w w' := by
  have hu39 := Try.underlying39; have hu31 := Try.underlying31; have hu66 := Try.underlying66; have hu68 := Try.underlying68; have mixed : Try.prog.follows Departure.mixedOrders = true := by kernel_rfl
  have h40 := fl_tasks ht
  have HR0 := Aside0.mk hr0
  have HC0 := Aside0.mk hc0
  have HT := Aside0.mk ht
  have HT2 := Aside0.mk ht2
  have HF := Aside0.mk h
  clear hr0 hc0 ht ht2 h
  go_enter Try.func32, Try.ntmps32
  go_wp2_with (first | (go_at_call 22; refine (impl_TasksOk.calls k A0 c0 l0 true _ (by first | exact HR0.out | exact Kd.C_drew HR0.out | exact Kd.C_drewN HR0.out _) HC0.out HT.out).mono ?_; rintro e w1 ⟨rfl, hb1⟩) | (go_at_call 52; refine (impl_turnOk.calls a1 true _ HT2.out).mono ?_; rintro e w2 ⟨rfl, nd, rfl⟩) | ((with_reducible refine gate_dst (N := 21) rfl ?_); refine Kd.R_make (Kd.int .i64) _ 3 rfl (N := 21) rfl 39 _ _ rfl (l0.length : Int) rfl rfl Try.underlying39 (.int .i64 0) 8 info3 rfl (by decide) (by omega) 0 (ok := fun _ => True) (okp := fun _ => True) rfl (fun _ hk => hk) trivial (by omega) (by simp only [Int.toNat_natCast]; omega) (Go.RowKit.Below.refl _ _) (Nat.le_refl _) ?_; intro v3 w3 ho3 hb3 hg3 hn3; rw [Int.toNat_natCast] at ho3; (obtain ⟨gb, cb, e3, gb3, gl3, cl3, gt3⟩ := Kd.R_form ho3 (by simp; omega)); rw [List.length_replicate] at e3; subst e3))
  obtain ⟨bm, hbm⟩ : ∃ q, q = w3.heap.size := ⟨_, rfl⟩
  have hB2 : Go.RowKit.Below w.heap.size w w3 := below_step (show Go.RowKit.Below w.heap.size w (w1.drewN nd) from by apply pw_below_drewN; exact hb1) hb3
  have hnb := blk_new w3 (Obj.cells #[.slice A0 l0.length c0, .int .i64 a1, .slice (some ⟨gb, 0, none⟩) l0.length cb] 66)
  have hR := Kd.R_lower ho3 (show w.heap.size ≤ (w1.drewN nd).heap.size from hb1.size)
  have hR2 := Kd.R_alloc (o := Obj.cells #[.slice A0 l0.length c0, .int .i64 a1, .slice (some ⟨gb, 0, none⟩) l0.length cb] 66) hR
  have hB3 := below_alloc hB2 (Obj.cells #[.slice A0 l0.length c0, .int .i64 a1, .slice (some ⟨gb, 0, none⟩) l0.length cb] 66)
  have HBM : Aside0 (w.heap.size ≤ bm) := ⟨by rw [hbm]; exact hB2.size⟩
  generalize hW4 : w3.alloc (Obj.cells #[.slice A0 l0.length c0, .int .i64 a1, .slice (some ⟨gb, 0, none⟩) l0.length cb] 66) = w4 at hnb hR2 hB3 ⊢
  rw [← hbm] at hnb ⊢
  have HM := Aside0.mk hnb; have HB := Aside0.mk hB3; have HO := Aside0.mk (fl_tight hR2)
  have HFP := Aside0.mk (fl_start l0.length)
  clear hW4 hnb hR2 hR hB3 hB2 hbm ho3 hb3 hg3 hn3 gb3 gl3 gt3 cl3 hb1
  go_loopg [26] (l0.length + 1) (fun kq v26 w' => ∃ (i : Nat) (bf : List Int), v26 = .int .i64 (i : Int) ∧ i ≤ l0.length ∧ l0.length + 1 ≤ i + kq ∧ Aside0 (fl_pl l0.length i bf) ∧ Aside0 (w'.heap[bm]? = some (.cells #[.slice A0 l0.length c0, .int .i64 a1, .slice (some ⟨gb, 0, none⟩) l0.length cb] 66 (0, 0))) ∧ Aside0 (Kd.R (Kd.int .i64) 3 w' w.heap.size (fun k => k = gb) (.slice (some ⟨gb, 0, none⟩) l0.length cb) bf) ∧ Aside0 (Go.RowKit.Below w.heap.size w w'))
  case atStart => exact ⟨0, _, rfl, by omega, by omega, HFP, HM, HO, HB⟩
  case round =>
    clear HFP HM HO HB
    obtain ⟨i, bf, rfl, hi, hg, HFP, HM, HO, HB⟩ := hrel
    have hne : bm ≠ gb := by
      obtain ⟨x, hx⟩ := own_typed (Kd.own_of_R HO.out) gb rfl
      have hm := HM.out
      exact fun e => by rw [e, hx] at hm; simp at hm
    have HNE := Aside0.mk hne
    have hbl := HFP.out.1
    clear hne
    have m2 : wr.cell? ⟨bm, 2, none⟩ = some (.slice (some ⟨gb, 0, none⟩) l0.length cb) := by rw [blk_cell HM.out]; rfl
    by_cases c : i < l0.length
    · have cz : (i : Int) < (l0.length : Int) := by omega
      have i0 : (0 : Int) ≤ (i : Int) := by omega
      have hc := Kd.R_celln 0 HO.out (i : Int) (by omega) (by omega)
      rw [Int.toNat_natCast] at hc
      obtain ⟨hc1, hc2⟩ := hc
      have hp := (Kd.R_putg HO.out (i : Int) (-1)).1
      rw [Int.toNat_natCast] at hp
      have HPP := Aside0.mk hp
      clear hp
      go_wp2
      go_roundg (gk - 1)
      case measure => omega
      case rel => exact ⟨i + 1, bf.set i (-1), by go_num, by omega, by omega, ⟨fl_step _ _ _ HFP.out c⟩, ⟨blk_far HM.out HNE.out _⟩, HPP, ⟨below_set HB.out (own_base (Kd.own_of_R HO.out) gb rfl)⟩⟩
    · have cz : ¬ (i : Int) < (l0.length : Int) := by omega
      have ie : i = l0.length := by omega
      subst ie
      have hbe := fl_end _ _ HFP.out
      subst hbe
      have HL : Aside0 (∀ j, j < l0.length → (List.replicate l0.length (-1 : Int)).getD j 0 < l0.length) := ⟨fun j hj => by
        rw [List.getD_eq_getElem?_getD, List.getElem?_replicate, if_pos hj]
        show (-1 : Int) < _
        omega⟩
      have HFS : Aside0 (impl_Fleet.l1 l0 a1 k ((List.range l0.length).drop 0) (List.replicate l0.length (-1)) (l0.length : Int) = some r) := ⟨HF.out⟩
      clear HFP HF hbl c hi hg
      go_wp2
      clear m2
      go_loopg [7, 38] (l0.length + 1) (fun kq v7 v38 w' => ∃ (a : Nat) (bf : List Int) (u : Int), v7 = .int .i64 u ∧ v38 = .int .i64 (a : Int) ∧ a ≤ l0.length ∧ l0.length + 1 ≤ a + kq ∧ (l0.length : Int) - a ≤ u ∧ u ≤ l0.length ∧ bf.length = l0.length ∧ Aside0 (w'.heap[bm]? = some (.cells #[.slice A0 l0.length c0, .int .i64 a1, .slice (some ⟨gb, 0, none⟩) l0.length cb] 66 (0, 0))) ∧ Aside0 (Kd.R (Kd.int .i64) 3 w' w.heap.size (fun k => k = gb) (.slice (some ⟨gb, 0, none⟩) l0.length cb) bf) ∧ Aside0 (Go.RowKit.Below w.heap.size w w') ∧ Aside0 (∀ j, j < l0.length → bf.getD j 0 < l0.length) ∧ Aside0 (impl_Fleet.l1 l0 a1 k ((List.range l0.length).drop a) bf u = some r))
      case atStart => exact ⟨0, _, _, rfl, rfl, by omega, by omega, by omega, by omega, by simp, HM, HO, HB, HL, HFS⟩
      case round =>
        clear HM HO HB HL HFS HNE cz
        obtain ⟨a, bf, u, rfl, rfl, ha, hg, hu1, hu2, hbl, HM, HO, HB, HL, HFS⟩ := hrel
        by_cases c : a < l0.length
        · have cz : (a : Int) < (l0.length : Int) := by omega
          have a0 : (0 : Int) ≤ (a : Int) := by omega
          have H := HFS.out
          rw [fl_drop _ _ c, impl_Fleet.l1] at H
          obtain ⟨r2, hr2, H2⟩ := Option.bind_eq_some_iff.1 H
          obtain ⟨q, bf2, sn2⟩ := r2
          have HP2 := Aside0.mk hr2
          have HN := Aside0.mk H2
          clear H H2 hr2 HFS
          have hsz : w.heap.size ≤ wr.heap.size := HB.out.size
          have HSZ := Aside0.mk hsz
          clear hsz
          cases q with
          | true =>
            go_wp2_with (first | ((with_reducible refine gate_dst (N := 44) rfl ?_); refine Kd.R_make Kd.bool _ 4 rfl (N := 44) rfl 68 _ _ rfl (l0.length : Int) rfl rfl Try.underlying68 (.bool false) 1 hd_info4 rfl (by decide) (by omega) false (ok := fun _ => True) (okp := fun _ => True) rfl (fun _ hk => hk) trivial (by omega) (by simp only [Int.toNat_natCast]; omega) (Go.RowKit.Below.refl _ _) (Nat.le_refl _) ?_; intro v3 w3 ho3 hb3 hg3 hn3; rw [Int.toNat_natCast] at ho3; (obtain ⟨gs, cs, e3, gb3, gl3, cl3, gt3⟩ := Kd.R_form ho3 (by simp; omega)); rw [List.length_replicate] at e3; subst e3; have HP := Aside0.mk (show PW w w3 l0.length a1 A0 c0 bm gb cb gs cs bf (List.replicate l0.length false) from ⟨blk_below HM.out hb3, Kd.R_below HO.out hb3, fl_tightb (Kd.R_lower ho3 HSZ.out), hbl, by simp, HBM.out, below_step HB.out hb3, HL.out⟩); clear ho3 hb3 hg3 hn3 gb3 gl3 gt3 cl3) | (go_at_call 62; refine (hd_place w l0 a1 A0 c0 bm gb cb gs cs HR0.out h40 k k (Nat.le_refl _) a bf (List.replicate l0.length false) (true, bf2, sn2) _ c HP.out HP2.out).mono ?_; rintro e_ w5 ⟨rfl, hp5⟩; have HP5 := Aside0.mk hp5; clear hp5))
            go_roundg (gk - 1)
            case measure => omega
            case rel => exact ⟨a + 1, bf2, u - 1, by go_num, by go_num, by omega, by omega, by omega, by omega, HP5.out.bl, ⟨HP5.out.m⟩, ⟨HP5.out.b⟩, ⟨HP5.out.B⟩, ⟨HP5.out.lt⟩, ⟨by have := HN.out; simpa using this⟩⟩
          | false =>
            go_wp2_with (first | ((with_reducible refine gate_dst (N := 44) rfl ?_); refine Kd.R_make Kd.bool _ 4 rfl (N := 44) rfl 68 _ _ rfl (l0.length : Int) rfl rfl Try.underlying68 (.bool false) 1 hd_info4 rfl (by decide) (by omega) false (ok := fun _ => True) (okp := fun _ => True) rfl (fun _ hk => hk) trivial (by omega) (by simp only [Int.toNat_natCast]; omega) (Go.RowKit.Below.refl _ _) (Nat.le_refl _) ?_; intro v3 w3 ho3 hb3 hg3 hn3; rw [Int.toNat_natCast] at ho3; (obtain ⟨gs, cs, e3, gb3, gl3, cl3, gt3⟩ := Kd.R_form ho3 (by simp; omega)); rw [List.length_replicate] at e3; subst e3; have HP := Aside0.mk (show PW w w3 l0.length a1 A0 c0 bm gb cb gs cs bf (List.replicate l0.length false) from ⟨blk_below HM.out hb3, Kd.R_below HO.out hb3, fl_tightb (Kd.R_lower ho3 HSZ.out), hbl, by simp, HBM.out, below_step HB.out hb3, HL.out⟩); clear ho3 hb3 hg3 hn3 gb3 gl3 gt3 cl3) | (go_at_call 62; refine (hd_place w l0 a1 A0 c0 bm gb cb gs cs HR0.out h40 k k (Nat.le_refl _) a bf (List.replicate l0.length false) (false, bf2, sn2) _ c HP.out HP2.out).mono ?_; rintro e_ w5 ⟨rfl, hp5⟩; have HP5 := Aside0.mk hp5; clear hp5))
            go_roundg (gk - 1)
            case measure => omega
            case rel => exact ⟨a + 1, bf2, u, rfl, by go_num, by omega, by omega, by omega, by omega, HP5.out.bl, ⟨HP5.out.m⟩, ⟨HP5.out.b⟩, ⟨HP5.out.B⟩, ⟨HP5.out.lt⟩, ⟨by have := HN.out; simpa using this⟩⟩
        · have cz : ¬ (a : Int) < (l0.length : Int) := by omega
          have ae : a = l0.length := by omega
          have hr : u = r := by
            have := HFS.out
            rw [ae, List.drop_of_length_le (by simp), impl_Fleet.l1] at this
            exact Option.some.inj this
          subst hr
          go_wp2
          go_ret
          exact ⟨rfl, HB.out⟩

set_option maxHeartbeats 32000000 in
set_option maxRecDepth 100000 in
theorem hd_Fleet_nil (k : Nat) (A0 : Option Addr) (c0 : Nat) (a1 : Int) (w : World) (hr0 : Kd.C k25 w A0 0 []) (hc0 : 0 ≤ c0) (ht : impl_TasksOk.f k [] = some true) (ht2 : impl_turnOk.f a1 = some true) :
    Calls Try.prog 32 #[.slice A0 0 c0, .int .i64 a1] w fun e w' => e = .returned (.int .i64 0) ∧ Go.RowKit.Below w.heap.size w w' := by
  have hu39 := Try.underlying39; have hu31 := Try.underlying31; have hu66 := Try.underlying66; have hu68 := Try.underlying68; have mixed : Try.prog.follows Departure.mixedOrders = true := by kernel_rfl
  have HR0 := Aside0.mk hr0
  have HC0 := Aside0.mk hc0
  have HT := Aside0.mk ht
  have HT2 := Aside0.mk ht2
  clear hr0 hc0 ht ht2
  go_enter Try.func32, Try.ntmps32
  go_wp2_with (first | (go_at_call 22; refine (impl_TasksOk.calls k A0 c0 [] true _ (by first | exact HR0.out | exact Kd.C_drew HR0.out | exact Kd.C_drewN HR0.out _) HC0.out HT.out).mono ?_; rintro e w1 ⟨rfl, hb1⟩) | (go_at_call 52; refine (impl_turnOk.calls a1 true _ HT2.out).mono ?_; rintro e w2 ⟨rfl, nd, rfl⟩) | ((with_reducible refine gate_dst (N := 21) rfl ?_); refine Kd.R_make (Kd.int .i64) _ 3 rfl (N := 21) rfl 39 _ _ rfl 0 rfl rfl Try.underlying39 (.int .i64 0) 8 info3 rfl (by decide) (by omega) 0 (ok := fun _ => True) (okp := fun _ => True) rfl (fun _ hk => hk) trivial (by omega) (by decide) (Go.RowKit.Below.refl _ _) (Nat.le_refl _) ?_; intro v3 w3 ho3 hb3 hg3 hn3; (obtain ⟨A3, c3, e3⟩ := Kd.R_slice ho3); simp only [Int.toNat_zero, List.replicate_zero, List.length_nil] at e3; subst e3))
  have hB2 : Go.RowKit.Below w.heap.size w w3 := below_step (show Go.RowKit.Below w.heap.size w (w1.drewN nd) from by apply pw_below_drewN; exact hb1) hb3
  have hB3 := below_alloc hB2 (Obj.cells #[.slice A0 0 c0, .int .i64 a1, .slice A3 0 c3] 66)
  generalize hW4 : w3.alloc (Obj.cells #[.slice A0 0 c0, .int .i64 a1, .slice A3 0 c3] 66) = w4 at hB3 ⊢
  have HB := Aside0.mk hB3
  clear hW4 hB3 hB2 ho3 hb3 hg3 hn3 hb1
  go_loopg [26] 0 (fun kq v26 w' => v26 = .int .i64 0 ∧ Aside0 (Go.RowKit.Below w.heap.size w w'))
  case atStart => exact ⟨rfl, HB⟩
  case round =>
    clear HB
    obtain ⟨rfl, HB⟩ := hrel
    go_wp2
    go_loopg [7, 38] 0 (fun kq v7 v38 w' => v7 = .int .i64 0 ∧ v38 = .int .i64 0 ∧ Aside0 (Go.RowKit.Below w.heap.size w w'))
    case atStart => exact ⟨rfl, rfl, HB⟩
    case round =>
      clear HB
      obtain ⟨rfl, rfl, HB⟩ := hrel
      go_wp2
      go_ret
      exact ⟨rfl, HB.out⟩
theorem hd_Fleet_no (k : Nat) (A0 : Option Addr) (c0 : Nat) (l0 : List (S25)) (a1 : Int) (w : World) (hr0 : Kd.C k25 w A0 l0.length l0) (hc0 : l0.length ≤ c0) (t : Bool) (ht : impl_TasksOk.f k l0 = some t) (ht2 : t = true → impl_turnOk.f a1 = some false) :
    Calls Try.prog 32 #[.slice A0 l0.length c0, .int .i64 a1] w fun e w' => e = .returned (.int .i64 (-1)) ∧ Go.RowKit.Below w.heap.size w w' := by
  have hu39 := Try.underlying39; have hu31 := Try.underlying31; have mixed : Try.prog.follows Departure.mixedOrders = true := by kernel_rfl
  have HR0 := Aside0.mk hr0
  have HC0 := Aside0.mk hc0
  have HT := Aside0.mk ht
  have HT2 := Aside0.mk ht2
  clear hr0 hc0 ht ht2
  cases t with
  | false =>
    go_enter Try.func32, Try.ntmps32
    go_wp2_with (first | (go_at_call 22; refine (impl_TasksOk.calls k A0 c0 l0 false _ (by first | exact HR0.out | exact Kd.C_drew HR0.out | exact Kd.C_drewN HR0.out _) HC0.out HT.out).mono ?_; rintro e w1 ⟨rfl, hb1⟩))
    go_ret
    exact ⟨rfl, hb1⟩
  | true =>
    have HT3 := Aside0.mk (HT2.out rfl)
    clear HT2
    go_enter Try.func32, Try.ntmps32
    go_wp2_with (first | (go_at_call 22; refine (impl_TasksOk.calls k A0 c0 l0 true _ (by first | exact HR0.out | exact Kd.C_drew HR0.out | exact Kd.C_drewN HR0.out _) HC0.out HT.out).mono ?_; rintro e w1 ⟨rfl, hb1⟩) | (go_at_call 52; refine (impl_turnOk.calls a1 false _ HT3.out).mono ?_; rintro e w2 ⟨rfl, nd, rfl⟩))
    go_ret
    exact ⟨rfl, by apply pw_below_drewN; exact hb1⟩
theorem hd_Fleet (k : Nat) (A0 : Option Addr) (c0 : Nat) (l0 : List (S25)) (a1 : Int) (r : Int) (w : World) (hr0 : Kd.C k25 w A0 l0.length l0) (hc0 : l0.length ≤ c0) (h : impl_Fleet.f k l0 a1 = some r) :
    Calls Try.prog 32 #[.slice A0 l0.length c0, .int .i64 a1] w fun e w' => e = .returned (.int .i64 r) ∧ Go.RowKit.Below w.heap.size w w' := by
  unfold impl_Fleet.f at h
  obtain ⟨t, ht, h⟩ := Option.bind_eq_some_iff.1 h
  cases t with
  | false =>
    obtain rfl : (-1 : Int) = r := by simpa using h
    exact hd_Fleet_no k A0 c0 l0 a1 w hr0 hc0 false ht (fun e => by simp at e)
  | true =>
    rw [if_pos rfl] at h
    obtain ⟨t2, ht2, h⟩ := Option.bind_eq_some_iff.1 h
    cases t2 with
    | false =>
      obtain rfl : (-1 : Int) = r := by simpa using h
      exact hd_Fleet_no k A0 c0 l0 a1 w hr0 hc0 true ht (fun _ => ht2)
    | true =>
      rw [if_pos rfl] at h
      by_cases c : 0 < l0.length
      · exact hd_Fleet_main k A0 c0 l0 a1 r w hr0 hc0 ht ht2 c h
      · have e : l0 = [] := List.length_eq_zero_iff.1 (by omega)
        subst e
        obtain rfl : (0 : Int) = r := by simpa [impl_Fleet.l1] using h
        exact hd_Fleet_nil k A0 c0 a1 w hr0 hc0 ht ht2
end Go.Proofs.Ytoalolbifakpiaa.P

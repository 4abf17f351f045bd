/- The program's ChainOk: a contract by hand (an array of last tasks in memory). -/
import Derived.Test.YtoalolbifakpiaaS13
import Derived.Test.YtoalolbifakpiaaPx6
namespace Go.Proofs.Ytoalolbifakpiaa.P
open Go.Proofs Go.Shelf Go.RowKit Go.Sort Go.Proofs.YtoalolbifakpiaaW.PrintWords Go.Proofs.YtoalolbifakpiaaW.PrintLast Go.Proofs.YtoalolbifakpiaaW.PrintMore
set_option linter.unusedVariables false
set_option linter.unusedSimpArgs false

def ca_fill (i : Nat) (xs : List Int) : Prop := xs.length = 40 ∧ ∀ j, j < i → xs.getD j 0 = -1
theorem ca_start : ca_fill 0 (List.replicate 40 0) := ⟨by simp, fun j h => absurd h (by omega)⟩
theorem ca_step (i : Nat) (xs : List Int) (h : ca_fill i xs) (hi : i < 40) : ca_fill (i + 1) (xs.set i (-1)) := by
  refine ⟨by rw [List.length_set]; exact h.1, fun j hj => ?_⟩
  rw [List.getD_eq_getElem?_getD, List.getElem?_set]
  by_cases e : i = j
  · rw [if_pos e, if_pos (by rw [h.1]; omega)]; rfl
  · rw [if_neg e, ← List.getD_eq_getElem?_getD]; exact h.2 j (by omega)
theorem ca_end (xs : List Int) (h : ca_fill 40 xs) : xs = List.replicate 40 (-1) := by
  apply List.ext_getElem
  · rw [h.1]; simp
  · intro i h1 h2
    have := h.2 i (by rw [← h.1]; exact h1)
    rw [List.getD_eq_getElem?_getD, List.getElem?_eq_getElem h1] at this
    rw [List.getElem_replicate]
    exact this
theorem ca_cell {W : World} {B : Nat} {xs : List Int} (h : W.heap[B]? = some (.cells (xs.map (Value.int .i64)).toArray 62 (0, 0))) (i : Nat) (hi : i < xs.length) : W.cell? ⟨B, i, none⟩ = some (.int .i64 (rd xs (i : Int))) := by
  rw [blk_cell h i]
  unfold rd
  rw [Int.toNat_natCast]
  simp [List.getD_eq_getElem?_getD, hi]
theorem ca_set {W : World} {B : Nat} {xs : List Int} (h : W.heap[B]? = some (.cells (xs.map (Value.int .i64)).toArray 62 (0, 0))) (i : Nat) (v : Int) : (W.setCell ⟨B, i, none⟩ (.int .i64 v)).heap[B]? = some (.cells ((xs.set i v).map (Value.int .i64)).toArray 62 (0, 0)) :=
  blk_put h i (.int .i64 v) (by simp [List.map_set])
theorem ca_tasks {k : Nat} {l0 : List S25} (h : impl_TasksOk.f k l0 = some true) : l0.length ≤ 40 := by
  unfold impl_TasksOk.f at h
  split at h
  · simp at h
  · omega
theorem ca_all (us : List Int) (i : Nat) (h : i < us.length) : us.drop i = rd us (i : Int) :: us.drop (i + 1) ∧ rd us (i : Int) ∈ us := by
  have e : rd us (i : Int) = us[i] := by unfold rd; rw [Int.toNat_natCast, List.getD_eq_getElem?_getD, List.getElem?_eq_getElem h]; rfl
  rw [e]
  exact ⟨List.drop_eq_getElem_cons h, List.getElem_mem _⟩
/-- The last tasks so far are tasks, or none. -/
def ca_last (n : Nat) (last : List Int) : Prop := last.length = 40 ∧ ∀ j, j < 40 → last.getD j 0 < n
theorem ca_last_start (n : Nat) : ca_last n (List.replicate 40 (-1)) := ⟨by simp, fun j hj => by
  rw [List.getD_eq_getElem?_getD, List.getElem?_replicate, if_pos hj]
  show (-1 : Int) < n
  omega⟩
theorem ca_last_set (n : Nat) (last : List Int) (i : Nat) (t : Int) (h : ca_last n last) (ht : t < n) : ca_last n (last.set i t) := by
  refine ⟨by rw [List.length_set]; exact h.1, fun j hj => ?_⟩
  rw [List.getD_eq_getElem?_getD, List.getElem?_set]
  by_cases e : i = j
  · rw [if_pos e, if_pos (by rw [h.1]; omega)]; exact ht
  · rw [if_neg e, ← List.getD_eq_getElem?_getD]; exact h.2 j hj
theorem ca_q : ∀ q, q ∈ 3 :: (Kd.int .i64).E → q ≠ 62 := fun q hq => by
  have : q = 3 := by simpa [Kd.int, Kd.scalar] using hq
  omega
theorem ca_grown (W : World) (n : Nat) (os : Array Obj) : Go.RowKit.Below W.heap.size W (grow (W.drewN n) os) := ⟨rfl, rfl, rfl, by rw [size_grow]; show W.heap.size ≤ W.heap.size + _; omega, fun k hk => heap_grow_old _ _ hk⟩
def ca_in (us : List Int) : Bool := us.all (fun u => decide (0 ≤ u) && decide (u ≤ 39))

set_option maxHeartbeats 16000000 in
set_option maxRecDepth 100000 in
theorem hd_ChainOk_main (k : Nat) (A0 : Option Addr) (c0 : Nat) (l0 : List (S25)) (a1 : Int) (A2 : Option Addr) (c2 : Nat) (l2 : List Int) (w : World) (hr0 : Kd.C k25 w A0 l0.length l0) (hc0 : l0.length ≤ c0) (hr2 : Kd.C (Kd.int .i64) w A2 l2.length l2) (hc2 : l2.length ≤ c2) (ht : impl_TasksOk.f k l0 = some true) (ht2 : impl_turnOk.f a1 = some true) (hlen : l2.length = l0.length) :
    Calls Try.prog 27 #[.slice A0 l0.length c0, .int .i64 a1, .slice A2 l2.length c2] w fun e w' => e = .returned (.bool (impl_ChainOk.l0 l0 a1 l2)) ∧ Go.RowKit.Below w.heap.size w w' := by
  have hu39 := Try.underlying39; have hu31 := Try.underlying31; have hu25 := Try.underlying25; have hu62 := Try.underlying62; have mixed : Try.prog.follows Departure.mixedOrders = true := by kernel_rfl
  have h40 := ca_tasks ht
  obtain ⟨r, hr⟩ : ∃ r, r = impl_ChainOk.l0 l0 a1 l2 := ⟨_, rfl⟩
  rw [← hr]
  have HRES := Aside0.mk hr
  have HR0 := Aside0.mk hr0
  have HC0 := Aside0.mk hc0
  have HR2 := Aside0.mk hr2
  have HT := Aside0.mk ht
  have HT2 := Aside0.mk ht2
  have hln : decide (l2.length = l0.length) = true := decide_eq_true hlen
  have hbne : ((l2.length : Int) != (l0.length : Int)) = false := by rw [hlen]; simp
  have HLEN := Aside0.mk hlen
  have hl2 : l2.length ≤ 40 := by omega
  clear hr hr0 hc0 hr2 ht ht2 hlen
  go_enter Try.func27, Try.ntmps27
  go_wp2_with (first | (go_at_call 22; refine (impl_TasksOk.calls k A0 c0 l0 true _ (by first | exact HR0.out | exact Kd.C_drew HR0.out | exact Kd.C_drewN HR0.out _) HC0.out HT.out).mono ?_; rintro e w1 ⟨rfl, hb1⟩) | (go_at_call 52; refine (impl_turnOk.calls a1 true _ HT2.out).mono ?_; rintro e w2 ⟨rfl, nd, rfl⟩))
  obtain ⟨B, hB⟩ : ∃ B, B = w1.heap.size := ⟨_, rfl⟩
  have HGB : Aside0 (w.heap.size ≤ B) := ⟨by rw [hB]; exact hb1.size⟩
  have HB1 : Aside0 (Go.RowKit.Below w.heap.size w (w1.drewN nd)) := ⟨hb1.trans ⟨rfl, rfl, rfl, Nat.le_refl _, fun _ _ => rfl⟩⟩
  clear hb1
  rw [← hB]
  go_loopg [29] 41 (fun kq v29 w' => ∃ (i : Nat) (xs : List Int), v29 = .int .i64 (i : Int) ∧ i ≤ 40 ∧ 41 ≤ i + kq ∧ Aside0 (ca_fill i xs) ∧ Aside0 (w'.heap[B]? = some (.cells (xs.map (Value.int .i64)).toArray 62 (0, 0))) ∧ Aside0 (Go.RowKit.Below w.heap.size w w'))
  case atStart =>
    refine ⟨0, List.replicate 40 0, rfl, by omega, by omega, ⟨ca_start⟩, ⟨?_⟩, ⟨?_⟩⟩
    · rw [hB]; exact blk_new (w1.drewN nd) _
    · exact below_alloc HB1.out _
  case round =>
    clear HB1 hB
    obtain ⟨i, xs, rfl, hi, hg, HF, HX, HB⟩ := hrel
    have hxl := HF.out.1
    by_cases c : i < 40
    · have cz : (i : Int) < 40 := by omega
      have i0 : (0 : Int) ≤ (i : Int) := by omega
      have hcell := ca_cell HX.out i (by omega)
      have hfr := blk_frozen HX.out i
      go_wp2
      go_roundg (gk - 1)
      case measure => omega
      case rel => exact ⟨i + 1, xs.set i (-1), by go_num, by omega, by omega, ⟨ca_step i xs HF.out c⟩, ⟨ca_set HX.out i (-1)⟩, ⟨below_set HB.out HGB.out⟩⟩
    · have ie : i = 40 := by omega
      subst ie
      have cz : ¬ ((40 : Nat) : Int) < 40 := by omega
      have hxe := ca_end xs HF.out
      subst hxe
      clear HF hxl c hi hg
      go_wp2
      have HI : Aside0 (ca_in (l2.drop 0) = ca_in l2) := ⟨rfl⟩
      go_loopg [37] 41 (fun kq v37 w' => ∃ (i : Nat), v37 = .int .i64 (i : Int) ∧ i ≤ l2.length ∧ 41 ≤ i + kq ∧ Aside0 (ca_in (l2.drop i) = ca_in l2) ∧ Aside0 (w'.heap[B]? = some (.cells ((List.replicate 40 (-1 : Int)).map (Value.int .i64)).toArray 62 (0, 0))) ∧ Aside0 (Go.RowKit.Below w.heap.size w w'))
      case atStart => exact ⟨0, rfl, by omega, by omega, HI, HX, HB⟩
      case round =>
        clear HI HX HB cz
        obtain ⟨i, rfl, hi, hg, HI, HX, HB⟩ := hrel
        by_cases c : i < l2.length
        · have cz : (i : Int) < (l2.length : Int) := by omega
          have i0 : (0 : Int) ≤ (i : Int) := by omega
          obtain ⟨ad, e, hx⟩ := Kd.at_int HR2.out (i : Int) i0 cz
          cases e
          rw [Int.toNat_natCast] at hx
          replace hx := (HB.out.cell (World.block_lt_of_cell? w _ hx)).trans hx
          obtain ⟨hd, hm⟩ := ca_all l2 i c
          obtain ⟨u, hu⟩ : ∃ u, u = rd l2 (i : Int) := ⟨_, rfl⟩
          rw [← hu] at hx hd hm
          have HI2 : Aside0 (ca_in l2 = ((decide (0 ≤ u) && decide (u ≤ 39)) && ca_in (l2.drop (i + 1)))) := ⟨by rw [← HI.out, hd]; rfl⟩
          clear hu hd hm HI
          obtain ⟨bb, hbb⟩ : ∃ bb, bb = (decide (0 ≤ u) && decide (u ≤ 39)) := ⟨_, rfl⟩
          rw [← hbb] at HI2
          have HBT : Aside0 (impl_between.f u 0 39 = some bb) := ⟨by
            unfold impl_between.f
            rw [hbb]
            by_cases c : u ≥ 0
            · rw [if_pos c, decide_eq_true (show 0 ≤ u from c)]; rfl
            · rw [if_neg c, decide_eq_false (show ¬ 0 ≤ u from c)]; rfl⟩
          clear hbb
          cases bb with
          | true =>
            go_wp2_with (first | (go_at_call 59; refine (impl_between.calls u 0 39 true _ HBT.out).mono ?_; rintro e w2 ⟨rfl, nd, rfl⟩))
            go_roundg (gk - 1)
            case measure => omega
            case rel => exact ⟨i + 1, by go_num, by omega, by omega, ⟨by rw [HI2.out, Bool.true_and]⟩, ⟨HX.out⟩, ⟨by apply pw_below_drewN; exact HB.out⟩⟩
          | false =>
            have hr : r = false := by
              rw [HRES.out]
              unfold impl_ChainOk.l0
              have := HI2.out
              unfold ca_in at this
              rw [this, Bool.false_and, Bool.false_and]
            subst hr
            clear HRES
            go_wp2_with (first | (go_at_call 59; refine (impl_between.calls u 0 39 false _ HBT.out).mono ?_; rintro e w2 ⟨rfl, nd, rfl⟩))
            go_ret
            exact ⟨rfl, by apply pw_below_drewN; exact HB.out⟩
        · have cz : ¬ (i : Int) < (l2.length : Int) := by omega
          have ie : i = l2.length := by omega
          subst ie
          have HL : Aside0 (r = impl_ChainOk.l1 l0 a1 l2 (impl_byDep.l0 l0) (List.replicate 40 (-1))) := ⟨by
            have h1 := HI.out
            rw [List.drop_length] at h1
            rw [HRES.out]
            unfold impl_ChainOk.l0
            unfold ca_in at h1
            rw [← h1]
            rfl⟩
          have HALL : Aside0 (ca_in l2 = true) := ⟨by rw [← HI.out, List.drop_length]; rfl⟩
          clear HRES HI c hi hg
          go_wp2_with (first | (go_at_call 60; refine (hd_byDep 0 A0 c0 l0 (impl_byDep.l0 l0) wr (Kd.C_below HR0.out HB.out) HC0.out (if_pos h40)).mono ?_; rintro e_ w3 ⟨vo, rfl, ho, hb2⟩; (obtain ⟨Ao, co, rfl⟩ := Kd.R_slice ho)))
          have HIN : Aside0 (∀ t : Int, 0 ≤ t → t < l0.length → 0 ≤ rd l2 t ∧ rd l2 t ≤ 39) := ⟨by
            intro t h0 h1
            have hl := HLEN.out
            have h2 := HALL.out
            unfold ca_in at h2
            rw [List.all_eq_true] at h2
            have hm := (ca_all l2 t.toNat (by omega)).2
            rw [Int.toNat_of_nonneg h0] at hm
            have := h2 _ hm
            simpa using this⟩
          clear HALL
          obtain ⟨hol, hoi⟩ := ch_order l0
          have h1 := below_step HB.out hb2
          have h2 := blk_below HX.out hb2
          have h3 := Kd.R_lower ho HB.out.size
          clear HX HB hb2 ho cz
          obtain ⟨os, hos⟩ : ∃ q, q = impl_byDep.l0 l0 := ⟨_, rfl⟩
          rw [← hos] at hol hoi h3 HL ⊢
          have HX := Aside0.mk h2; have HB := Aside0.mk h1; have HO := Aside0.mk h3; have HOI := Aside0.mk hoi; have HOL := Aside0.mk hol
          have hos40 : os.length ≤ 40 := by omega
          have HCL := Aside0.mk (ca_last_start l0.length)
          have HL2 : Aside0 (r = impl_ChainOk.l1 l0 a1 l2 (os.drop 0) (List.replicate 40 (-1))) := ⟨HL.out⟩
          clear h1 h2 h3 hos hoi hol HL
          go_loopg [48] 41 (fun kq v48 w' => ∃ (i : Nat) (last : List Int), v48 = .int .i64 (i : Int) ∧ i ≤ os.length ∧ 41 ≤ i + kq ∧ Aside0 (ca_last l0.length last) ∧ Aside0 (w'.heap[B]? = some (.cells (last.map (Value.int .i64)).toArray 62 (0, 0))) ∧ Aside0 (Kd.R (Kd.int .i64) 3 w' w.heap.size (fun _ => True) (.slice Ao os.length co) os) ∧ Aside0 (Go.RowKit.Below w.heap.size w w') ∧ Aside0 (r = impl_ChainOk.l1 l0 a1 l2 (os.drop i) last))
          case atStart => exact ⟨0, _, rfl, by omega, by omega, HCL, HX, HO, HB, HL2⟩
          case round =>
            clear HX HB HO HCL HL2
            obtain ⟨i, last, rfl, hi, hg, HCL, HX, HO, HB, HL⟩ := hrel
            by_cases c : i < os.length
            · have cz : (i : Int) < (os.length : Int) := by omega
              have i0 : (0 : Int) ≤ (i : Int) := by omega
              obtain ⟨ad5, e5, hx5⟩ := Kd.at_int (Kd.R_reads' HO.out).2.2 (i : Int) i0 cz
              cases e5
              obtain ⟨hm, hd⟩ := ch_rd os i c
              obtain ⟨t, ht⟩ : ∃ t, t = rd os (i : Int) := ⟨_, rfl⟩
              rw [← ht] at hm hd
              rw [Int.toNat_natCast, ← ht] at hx5
              obtain ⟨ht0, ht1⟩ := HOI.out t hm
              obtain ⟨hu0, hu1⟩ := HIN.out t ht0 ht1
              have ht2 : t < (l2.length : Int) := by have := HLEN.out; omega
              obtain ⟨ad2, e2, hx2⟩ := Kd.at_int HR2.out t ht0 ht2
              cases e2
              replace hx2 := (HB.out.cell (World.block_lt_of_cell? w _ hx2)).trans hx2
              obtain ⟨u, hu⟩ : ∃ u, u = rd l2 t := ⟨_, rfl⟩
              rw [← hu] at hx2 hu0 hu1
              obtain ⟨un, hun⟩ : ∃ un : Nat, u = (un : Int) := ⟨u.toNat, by omega⟩
              have hla : rd last (un : Int) < l0.length := by have := HCL.out.2 un (by omega); unfold rd; rw [Int.toNat_natCast]; exact this
              obtain ⟨z, hz⟩ : ∃ z, z = rd last (un : Int) := ⟨_, rfl⟩
              have hcell := ca_cell HX.out un (by rw [HCL.out.1]; omega)
              rw [← hz] at hcell hla
              have HL2 : Aside0 (r = if 0 ≤ z ∧ impl_chains.l3 a1 (rd_T25 l0 z) (rd_T25 l0 t) = false then false else impl_ChainOk.l1 l0 a1 l2 (os.drop (i + 1)) (last.set un t)) := ⟨by
                rw [HL.out, hd, impl_ChainOk.l1, ← hu, hun, ← hz, Int.toNat_natCast]⟩
              have HT := Aside0.mk ht
              have HD := Aside0.mk hd
              subst hun
              have HU := Aside0.mk hu
              have HZ := Aside0.mk hz
              clear hm hd ht hu hz HL
              have un0 : (0 : Int) ≤ (un : Int) := by omega
              have un1 : (un : Int) < 40 := by omega
              by_cases cz0 : 0 ≤ z
              · have czd : decide (z ≥ 0) = true := decide_eq_true cz0
                obtain ⟨fl, hfl⟩ : ∃ q, q = impl_chains.l3 a1 (rd_T25 l0 z) (rd_T25 l0 t) := ⟨_, rfl⟩
                have HL3 : Aside0 (r = if fl = false then false else impl_ChainOk.l1 l0 a1 l2 (os.drop (i + 1)) (last.set un t)) := ⟨by
                  rw [HL2.out, ← hfl]
                  cases fl
                  · rw [if_pos ⟨cz0, rfl⟩, if_pos rfl]
                  · rw [if_neg (by simp), if_neg (by simp)]⟩
                obtain ⟨ad, ea, hy0, hy1, hy2, hy3, hy4⟩ := at_T25 HR0.out t ht0 ht1
                obtain ⟨ad', ea', hz0, hz1, hz2, hz3, hz4⟩ := at_T25 HR0.out z cz0 hla
                cases ea
                cases ea'
                replace hy0 := (HB.out.cell (World.block_lt_of_cell? w _ hy0)).trans hy0
                replace hy1 := (HB.out.cell (World.block_lt_of_cell? w _ hy1)).trans hy1
                replace hy2 := (HB.out.cell (World.block_lt_of_cell? w _ hy2)).trans hy2
                replace hy3 := (HB.out.cell (World.block_lt_of_cell? w _ hy3)).trans hy3
                replace hy4 := (HB.out.cell (World.block_lt_of_cell? w _ hy4)).trans hy4
                replace hz0 := (HB.out.cell (World.block_lt_of_cell? w _ hz0)).trans hz0
                replace hz1 := (HB.out.cell (World.block_lt_of_cell? w _ hz1)).trans hz1
                replace hz2 := (HB.out.cell (World.block_lt_of_cell? w _ hz2)).trans hz2
                replace hz3 := (HB.out.cell (World.block_lt_of_cell? w _ hz3)).trans hz3
                replace hz4 := (HB.out.cell (World.block_lt_of_cell? w _ hz4)).trans hz4
                have hcall := fun (n : Nat) (os : Array Obj) => hd_follows (rd_T25 l0 z) (rd_T25 l0 t) a1 (grow (wr.drewN n) os)
                rw [← hfl] at hcall
                have kc := fun n os => sy_keep hcell n os
                have ky0 := fun n os => sy_keep hy0 n os
                have ky1 := fun n os => sy_keep hy1 n os
                have ky2 := fun n os => sy_keep hy2 n os
                have ky3 := fun n os => sy_keep hy3 n os
                have ky4 := fun n os => sy_keep hy4 n os
                have kz0 := fun n os => sy_keep hz0 n os
                have kz1 := fun n os => sy_keep hz1 n os
                have kz2 := fun n os => sy_keep hz2 n os
                have kz3 := fun n os => sy_keep hz3 n os
                have kz4 := fun n os => sy_keep hz4 n os
                have HFL := Aside0.mk hfl
                clear hfl hy0 hy1 hy2 hy3 hy4 hz0 hz1 hz2 hz3 hz4 hcell HL2
                go_wp2
                clear hx5 hx2
                go_quiet_grown (first | (go_at_call 53; refine Calls.grown_of (hcall _ _)))
                clear hcall kc ky0 ky1 ky2 ky3 ky4 kz0 kz1 kz2 kz3 kz4
                have hb3 := ca_grown wr nq osq
                generalize hW3 : grow (wr.drewN nq) osq = w4 at hb3 ⊢
                clear hW3
                have m2 := Kd.R_below HO.out hb3
                have m4 := below_step HB.out hb3
                have m5 := blk_below HX.out hb3
                clear HO HB HX hb3
                have HO := Aside0.mk m2; have HB := Aside0.mk m4; have HX := Aside0.mk m5
                clear m2 m4 m5
                cases fl with
                | false =>
                  have hr : r = false := by rw [HL3.out, if_pos rfl]
                  subst hr
                  go_wp2
                  go_ret
                  exact ⟨rfl, HB.out⟩
                | true =>
                  have hcell := ca_cell HX.out un (by rw [HCL.out.1]; omega)
                  have hfr := blk_frozen HX.out un
                  go_wp2
                  go_roundg (gk - 1)
                  case measure => omega
                  case rel => exact ⟨i + 1, last.set un t, by go_num, by omega, by omega, ⟨ca_last_set _ _ _ _ HCL.out ht1⟩, ⟨ca_set HX.out un t⟩, ⟨Kd.R_set HO.out HX.out ca_q un _⟩, ⟨below_set HB.out HGB.out⟩, ⟨by rw [HL3.out, if_neg (by simp)]⟩⟩
              · have czd : decide (z ≥ 0) = false := decide_eq_false cz0
                have HL3 : Aside0 (r = impl_ChainOk.l1 l0 a1 l2 (os.drop (i + 1)) (last.set un t)) := ⟨by
                  rw [HL2.out, if_neg (fun h => cz0 h.1)]⟩
                have hfr := blk_frozen HX.out un
                clear HL2 cz0
                go_wp2
                clear hx5 hx2
                go_quiet (fail)
                go_wp2
                go_roundg (gk - 1)
                case measure => omega
                case rel => exact ⟨i + 1, last.set un t, by go_num, by omega, by omega, ⟨ca_last_set _ _ _ _ HCL.out ht1⟩, ⟨ca_set (blk_drewN HX.out _) un t⟩, ⟨Kd.R_set (by apply Kd.R_drewN; exact HO.out) (blk_drewN HX.out _) ca_q un _⟩, ⟨below_set (by apply pw_below_drewN; exact HB.out) HGB.out⟩, HL3⟩
            · have cz : ¬ (i : Int) < (os.length : Int) := by omega
              have ie : i = os.length := by omega
              subst ie
              have hr : r = true := by rw [HL.out, List.drop_length, impl_ChainOk.l1]
              subst hr
              go_wp2
              go_ret
              exact ⟨rfl, HB.out⟩
theorem hd_ChainOk_no (k : Nat) (A0 : Option Addr) (c0 : Nat) (l0 : List (S25)) (a1 : Int) (A2 : Option Addr) (c2 : Nat) (l2 : List Int) (w : World) (hr0 : Kd.C k25 w A0 l0.length l0) (hc0 : l0.length ≤ c0) (t t2 : Bool) (ht : impl_TasksOk.f k l0 = some t) (ht2 : impl_turnOk.f a1 = some t2) (hno : t = false ∨ t2 = false ∨ l2.length ≠ l0.length) :
    Calls Try.prog 27 #[.slice A0 l0.length c0, .int .i64 a1, .slice A2 l2.length c2] w fun e w' => e = .returned (.bool false) ∧ Go.RowKit.Below w.heap.size w w' := by
  have hu39 := Try.underlying39; have hu31 := Try.underlying31; have mixed : Try.prog.follows Departure.mixedOrders = true := by kernel_rfl
  have HR0 := Aside0.mk hr0
  have HC0 := Aside0.mk hc0
  have HT := Aside0.mk ht
  have HT2 := Aside0.mk ht2
  clear hr0 hc0 ht ht2
  have HN := Aside0.mk hno
  clear hno
  cases t with
  | false =>
    go_enter Try.func27, Try.ntmps27
    go_wp2_with (first | (go_at_call 22; refine (impl_TasksOk.calls k A0 c0 l0 false _ (by first | exact HR0.out | exact Kd.C_drew HR0.out | exact Kd.C_drewN HR0.out _) HC0.out HT.out).mono ?_; rintro e w1 ⟨rfl, hb1⟩))
    go_ret
    exact ⟨rfl, hb1⟩
  | true =>
    cases t2 with
    | false =>
      go_enter Try.func27, Try.ntmps27
      go_wp2_with (first | (go_at_call 22; refine (impl_TasksOk.calls k A0 c0 l0 true _ (by first | exact HR0.out | exact Kd.C_drew HR0.out | exact Kd.C_drewN HR0.out _) HC0.out HT.out).mono ?_; rintro e w1 ⟨rfl, hb1⟩) | (go_at_call 52; refine (impl_turnOk.calls a1 false _ HT2.out).mono ?_; rintro e w2 ⟨rfl, nd, rfl⟩))
      go_ret
      exact ⟨rfl, by apply pw_below_drewN; exact hb1⟩
    | true =>
      have hne : l2.length ≠ l0.length := by rcases HN.out with h | h | h; (· simp at h); (· simp at h); exact h
      have hln : decide (l2.length = l0.length) = false := decide_eq_false hne
      have hbne : ((l2.length : Int) != (l0.length : Int)) = true := by simp; omega
      clear hne HN
      go_enter Try.func27, Try.ntmps27
      go_wp2_with (first | (go_at_call 22; refine (impl_TasksOk.calls k A0 c0 l0 true _ (by first | exact HR0.out | exact Kd.C_drew HR0.out | exact Kd.C_drewN HR0.out _) HC0.out HT.out).mono ?_; rintro e w1 ⟨rfl, hb1⟩) | (go_at_call 52; refine (impl_turnOk.calls a1 true _ HT2.out).mono ?_; rintro e w2 ⟨rfl, nd, rfl⟩))
      go_ret
      exact ⟨rfl, by apply pw_below_drewN; exact hb1⟩
theorem hd_ChainOk (k : Nat) (A0 : Option Addr) (c0 : Nat) (l0 : List (S25)) (a1 : Int) (A2 : Option Addr) (c2 : Nat) (l2 : List Int) (r : Bool) (w : World) (hr0 : Kd.C k25 w A0 l0.length l0) (hc0 : l0.length ≤ c0) (hr2 : Kd.C (Kd.int .i64) w A2 l2.length l2) (hc2 : l2.length ≤ c2) (h : impl_ChainOk.f k l0 a1 l2 = some r) :
    Calls Try.prog 27 #[.slice A0 l0.length c0, .int .i64 a1, .slice A2 l2.length c2] w fun e w' => e = .returned (.bool r) ∧ Go.RowKit.Below w.heap.size w w' := by
  unfold impl_ChainOk.f at h
  obtain ⟨t, ht, h⟩ := Option.bind_eq_some_iff.1 h
  have htu : ∃ t2, impl_turnOk.f a1 = some t2 := by
    unfold impl_turnOk.f impl_between.f
    split <;> exact ⟨_, rfl⟩
  obtain ⟨t2, ht2⟩ := htu
  cases t with
  | false =>
    obtain rfl : false = r := by simpa using h
    exact hd_ChainOk_no k A0 c0 l0 a1 A2 c2 l2 w hr0 hc0 false t2 ht ht2 (Or.inl rfl)
  | true =>
    rw [if_pos rfl, ht2, Option.bind_some] at h
    cases t2 with
    | false =>
      obtain rfl : false = r := by simpa using h
      exact hd_ChainOk_no k A0 c0 l0 a1 A2 c2 l2 w hr0 hc0 true false ht ht2 (Or.inr (Or.inl rfl))
    | true =>
      rw [if_pos rfl] at h
      by_cases c : l2.length = l0.length
      · rw [if_pos c] at h
        obtain rfl := Option.some.inj h
        exact hd_ChainOk_main k A0 c0 l0 a1 A2 c2 l2 w hr0 hc0 hr2 hc2 ht ht2 c
      · rw [if_neg c] at h
        obtain rfl := Option.some.inj h
        exact hd_ChainOk_no k A0 c0 l0 a1 A2 c2 l2 w hr0 hc0 true true ht ht2 (Or.inr (Or.inr c))
end Go.Proofs.Ytoalolbifakpiaa.P

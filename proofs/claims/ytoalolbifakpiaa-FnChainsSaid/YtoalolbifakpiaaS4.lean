/- slices.symMergeCmpFunc on []int: the third way, and the contract. -/
import Derived.Test.YtoalolbifakpiaaS3
import Derived.Laws.Shifts
import Derived.Laws.Entries
import Derived.Deep.Cut
import Derived.Deep.DeepCutAuto
import Derived.Deep.CutBlock
import Derived.Deep.CutBlock
namespace Go.Proofs.Ytoalolbifakpiaa.P
open Go.Proofs Go.Shelf Go.RowKit Go.Lib Go.Sort
set_option linter.unusedVariables false
set_option linter.unusedSimpArgs false

/-- The code behind so many statements. -/
def sy_rt : Nat → Code → Code
  | 0, c => c
  | n + 1, .seq _ b => sy_rt n b
  | _, c => c
noncomputable def sy_c41 : Code := sy_rt 10 (Try.f77.body.getD .skip)
set_option maxHeartbeats 16000000 in
set_option maxRecDepth 1000000 in
theorem sy_tail {K : Nat} (g : Nat) (cb : Array Value) (cf : Fin (K + 1) → Fin (K + 1) → Int) (blk off cap N : Nat) (d0 : Array (Fin (K + 1))) (w0 : World) (h0 : d0.size = N) (hsz : N < 4611686018427387904) (f : Nat)
    (ih : ∀ (a m b : Nat) (d : Array (Fin (K + 1))) (w : World), b - a ≤ f → a < m → m < b → b ≤ N → d.size = N → SW sy_int w0 blk off d w →
    Calls Try.prog 77 #[.slice (some ⟨blk, off, none⟩) N cap, .int .i64 a, .int .i64 m, .int .i64 b, .func (.func g) #[] cb] w fun e w' => e = .returned (.tuple #[]) ∧ SW sy_int w0 blk off (sy_merge (ltOf cf) f a m b d) w')
    (a m b : Nat) (d d1 : Array (Fin (K + 1))) (w : World) (i mid e : Nat) (hf : b - a ≤ f + 1) (ham : a < m) (hmb : m < b) (hbN : b ≤ N) (hs1 : d1.size = N) (S : SW sy_int w0 blk off d1 w)
    (HR1 : Hid ((if i < m ∧ m < e then sy_rot m (e - i) (m - i) (e - m) d else d) = d1)) (c1 : ¬ m - a = 1) (c2 : ¬ b - m = 1) (HM : Aside (mid = (a + b) / 2))
    (hsel : (if m > mid then sy_bs (fun c => !ltOf cf d[mid + m - 1 - c]! d[c]!) (mid + m - b) mid else sy_bs (fun c => !ltOf cf d[mid + m - 1 - c]! d[c]!) a m) = i) (HE : Aside (e = mid + m - i)) (hm2 : a < mid ∧ mid < b ∧ mid + mid ≤ a + b ∧ a + b ≤ mid + mid + 1) (he2 : m ≤ e ∧ e ≤ b ∧ mid ≤ e ∧ i ≤ mid ∧ i ≤ m ∧ a ≤ i)
    {u5 u6 u7 u8 u9 u10 u11 u12 u13 u14 u15 u16 u17 u19 u21 u22 u23 u25 u26 u27 u28 u29 u30 u31 u32 u33 u34 u35 u36 u37 u38 u39 u40 u41 u42 u43 u44 u45 u46 u47 u48 u49 u50 u51 u52 u53 u54 u55 u56 u57 u58 u59 u60 u61 u62 u63 u64 u65 u66 u67 u68 u69 u70 u71 u72 u73 u74 u75 u76 u77 u78 u79 u80 u81 u82 u83 u84 u85 u86 u87 u88 u89 u90 u91 u92 u93 u94 u95 u96 u97 u98 u99 u100 u101 u102 u103 u104 u105 u106 u107 u108 u109 u110 u111 u112 u113 u114 u115 u116 u117 u118 u119 u120 u121 u122 u123 u124 u125 u126 u127 u128 u129 u130 u131 u132 u133 u134 u135 u136 u137 u138 u139 u140 u141 u142 u143 u144 u145 u146 u147 u148 u149 u150 u151 u152 u153 u154 u155 u156 u157 u158 u159 u160 u161 u162 u163 u164 u165 u166 u167 u168 u169 u170 u171 u172 u173 u174 u175 u176 u177 u178 u179 u180 u181 u182 u183 u184 u185 u186 u187 u188 u189 u190 u191 u192 u193 u194 u195 u196 u197 u198 u199 u200 u201 u202 u203 u204 u205 u206 u207 u208 u209 u210 u211 u212 u213 u214 u215 u216 u217 u218 u219 : Value} (act : Act) (hact : act = { tmps := List.toArray ((.slice (some ⟨blk, off, none⟩) N cap : Value) :: (.int .i64 a : Value) :: (.int .i64 m : Value) :: (.int .i64 b : Value) :: (.func (.func g) #[] cb : Value) :: u5 :: u6 :: u7 :: u8 :: u9 :: u10 :: u11 :: u12 :: u13 :: u14 :: u15 :: u16 :: u17 :: (.int .i64 mid : Value) :: u19 :: (.int .i64 i : Value) :: u21 :: u22 :: u23 :: (.int .i64 e : Value) :: u25 :: u26 :: u27 :: u28 :: u29 :: u30 :: u31 :: u32 :: u33 :: u34 :: u35 :: u36 :: u37 :: u38 :: u39 :: u40 :: u41 :: u42 :: u43 :: u44 :: u45 :: u46 :: u47 :: u48 :: u49 :: u50 :: u51 :: u52 :: u53 :: u54 :: u55 :: u56 :: u57 :: u58 :: u59 :: u60 :: u61 :: u62 :: u63 :: u64 :: u65 :: u66 :: u67 :: u68 :: u69 :: u70 :: u71 :: u72 :: u73 :: u74 :: u75 :: u76 :: u77 :: u78 :: u79 :: u80 :: u81 :: u82 :: u83 :: u84 :: u85 :: u86 :: u87 :: u88 :: u89 :: u90 :: u91 :: u92 :: u93 :: u94 :: u95 :: u96 :: u97 :: u98 :: u99 :: u100 :: u101 :: u102 :: u103 :: u104 :: u105 :: u106 :: u107 :: u108 :: u109 :: u110 :: u111 :: u112 :: u113 :: u114 :: u115 :: u116 :: u117 :: u118 :: u119 :: u120 :: u121 :: u122 :: u123 :: u124 :: u125 :: u126 :: u127 :: u128 :: u129 :: u130 :: u131 :: u132 :: u133 :: u134 :: u135 :: u136 :: u137 :: u138 :: u139 :: u140 :: u141 :: u142 :: u143 :: u144 :: u145 :: u146 :: u147 :: u148 :: u149 :: u150 :: u151 :: u152 :: u153 :: u154 :: u155 :: u156 :: u157 :: u158 :: u159 :: u160 :: u161 :: u162 :: u163 :: u164 :: u165 :: u166 :: u167 :: u168 :: u169 :: u170 :: u171 :: u172 :: u173 :: u174 :: u175 :: u176 :: u177 :: u178 :: u179 :: u180 :: u181 :: u182 :: u183 :: u184 :: u185 :: u186 :: u187 :: u188 :: u189 :: u190 :: u191 :: u192 :: u193 :: u194 :: u195 :: u196 :: u197 :: u198 :: u199 :: u200 :: u201 :: u202 :: u203 :: u204 :: u205 :: u206 :: u207 :: u208 :: u209 :: u210 :: u211 :: u212 :: u213 :: u214 :: u215 :: u216 :: u217 :: u218 :: u219 :: []), defers := [] }) :
    Code.wp Try.prog sy_c41 (bodyPost Try.prog Try.f77 fun e w' => e = .returned (.tuple #[]) ∧ SW sy_int w0 blk off (sy_merge (ltOf cf) (f + 1) a m b d) w') act w := by
  have hu39 := Try.underlying39; have mixed : Try.prog.follows Departure.mixedOrders = true := by kernel_rfl
  have IH : Aside _ := ih
  have S1 : Aside (SW sy_int w0 blk off d1 w) := S
  have HM2 : Aside (a < mid ∧ mid < b ∧ mid + mid ≤ a + b ∧ a + b ≤ mid + mid + 1) := hm2
  have HSEL : Aside ((if m > mid then sy_bs (fun c => !ltOf cf d[mid + m - 1 - c]! d[c]!) (mid + m - b) mid else sy_bs (fun c => !ltOf cf d[mid + m - 1 - c]! d[c]!) a m) = i) := hsel
  clear ih S hm2 hsel
  subst hact
  conv => arg 2; dsimp only [sy_c41, sy_rt, Try.f77, Option.getD]
  refine wp_seq_k ?_
  intro K3 hK3
  go_cut [] (fun wc => ∃ (d2 : Array (Fin (K + 1))), d2.size = N ∧ Aside (SW sy_int w0 blk off d2 wc) ∧ Hid ((if a < i ∧ i < mid then sy_merge (ltOf cf) f a i mid d1 else d1) = d2))
  case first =>
    by_cases ca : a < i
    · have za : (a : Int) < (i : Int) := by omega
      have zad : decide ((a : Int) < (i : Int)) = true := decide_eq_true za
      by_cases cb_ : i < mid
      · have zb : (i : Int) < (mid : Int) := by omega
        have zbd : decide ((i : Int) < (mid : Int)) = true := decide_eq_true zb
        go_wp2_with (go_at_call 77; refine (IH.out a i mid d1 w (by have := HM2.out; omega) ca cb_ (by have := HM2.out; omega) hs1 S1.out).mono ?_; rintro e_ w2 ⟨rfl, S2⟩; have SA : Aside _ := S2; clear S1 S2)
        go_meet
        case rel => exact ⟨_, by rw [sy_merge_size]; exact hs1, SA, (show Hid _ from if_pos ⟨ca, cb_⟩)⟩
      · have zb : ¬ (i : Int) < (mid : Int) := by omega
        have zbd : decide ((i : Int) < (mid : Int)) = false := decide_eq_false zb
        go_wp2
        go_meet
        case rel => exact ⟨d1, hs1, S1, (show Hid _ from if_neg (by omega))⟩
    · have za : ¬ (a : Int) < (i : Int) := by omega
      have zad : decide ((a : Int) < (i : Int)) = false := decide_eq_false za
      go_wp2
      go_meet
      case rel => exact ⟨d1, hs1, S1, (show Hid _ from if_neg (by omega))⟩
  case rest =>
    clear S1
    obtain ⟨d2, hs2, S1, HR2⟩ := hcut
    refine hK3 _ _ ?_
    clear hK3
    by_cases ca : mid < e
    · have za : (mid : Int) < (e : Int) := by omega
      have zad : decide ((mid : Int) < (e : Int)) = true := decide_eq_true za
      by_cases cb_ : e < b
      · have zb : (e : Int) < (b : Int) := by omega
        have zbd : decide ((e : Int) < (b : Int)) = true := decide_eq_true zb
        go_wp2_with (go_at_call 77; refine (IH.out mid e b d2 wc (by have := HM2.out; omega) ca cb_ (by have := HM2.out; omega) hs2 S1.out).mono ?_; rintro e_ w2 ⟨rfl, S2⟩; have SA : Aside _ := S2; clear S1 S2)
        refine bodyPost_end (results_none rfl _ _ _) rfl ?_
        exact ⟨rfl, by rw [sy_merge_fold _ f a m b i mid e d d1 d2 c1 c2 HM.out HSEL.out HE.out HR1.out HR2.out, (if_pos ⟨ca, cb_⟩)]; exact SA.out⟩
      · have zb : ¬ (e : Int) < (b : Int) := by omega
        have zbd : decide ((e : Int) < (b : Int)) = false := decide_eq_false zb
        go_wp2
        refine bodyPost_end (results_none rfl _ _ _) rfl ?_
        exact ⟨rfl, by rw [sy_merge_fold _ f a m b i mid e d d1 d2 c1 c2 HM.out HSEL.out HE.out HR1.out HR2.out, (if_neg (by omega))]; exact S1.out⟩
    · have za : ¬ (mid : Int) < (e : Int) := by omega
      have zad : decide ((mid : Int) < (e : Int)) = false := decide_eq_false za
      go_wp2
      refine bodyPost_end (results_none rfl _ _ _) rfl ?_
      exact ⟨rfl, by rw [sy_merge_fold _ f a m b i mid e d d1 d2 c1 c2 HM.out HSEL.out HE.out HR1.out HR2.out, (if_neg (by omega))]; exact S1.out⟩
set_option maxHeartbeats 16000000 in
set_option maxRecDepth 1000000 in
theorem hd_symMerge_c {K : Nat} (g : Nat) (cb : Array Value) (cf : Fin (K + 1) → Fin (K + 1) → Int) (blk off cap N : Nat) (d0 : Array (Fin (K + 1))) (w0 : World) (eg : ∀ args w, (callFunc g args).run Try.prog w = .ok (.enter g args) w)
    (hcmp : CmpLays1 Try.prog g cb sy_int cf blk off N w0) (R : Row1 (sy_int (K := K)) w0 blk off d0) (h0 : d0.size = N) (hsz : N < 4611686018427387904) (f : Nat)
    (ih : ∀ (a m b : Nat) (d : Array (Fin (K + 1))) (w : World), b - a ≤ f → a < m → m < b → b ≤ N → d.size = N → SW sy_int w0 blk off d w →
    Calls Try.prog 77 #[.slice (some ⟨blk, off, none⟩) N cap, .int .i64 a, .int .i64 m, .int .i64 b, .func (.func g) #[] cb] w fun e w' => e = .returned (.tuple #[]) ∧ SW sy_int w0 blk off (sy_merge (ltOf cf) f a m b d) w')
    (a m b : Nat) (d : Array (Fin (K + 1))) (w : World) (hf : b - a ≤ f + 1) (ham : a < m) (hmb : m < b) (hbN : b ≤ N) (hs : d.size = N) (S : SW sy_int w0 blk off d w) (c1 : ¬ m - a = 1) (c2 : ¬ b - m = 1) :
    Calls Try.prog 77 #[.slice (some ⟨blk, off, none⟩) N cap, .int .i64 a, .int .i64 m, .int .i64 b, .func (.func g) #[] cb] w fun e w' => e = .returned (.tuple #[]) ∧ SW sy_int w0 blk off (sy_merge (ltOf cf) (f + 1) a m b d) w' := by
  have hu39 := Try.underlying39; have mixed : Try.prog.follows Departure.mixedOrders = true := by kernel_rfl
  have HC : Aside _ := hcmp
  clear hcmp
  have S0 : Aside (SW sy_int w0 blk off d w) := S
  clear S
  have IH : Aside _ := ih
  clear ih
  go_enter Try.func77, Try.ntmps77
  have z1 : ¬ (m : Int) - (a : Int) = 1 := by omega
  have z1b : ((m : Int) - (a : Int) == 1) = false := by rw [beq_eq_false_iff_ne]; exact z1
  have z2 : ¬ (b : Int) - (m : Int) = 1 := by omega
  have z2b : ((b : Int) - (m : Int) == 1) = false := by rw [beq_eq_false_iff_ne]; exact z2
  obtain ⟨mid, hmid⟩ : ∃ q, q = (a + b) / 2 := ⟨_, rfl⟩
  have zm : ((a : Int) + (b : Int)) / 2 = (mid : Int) := by omega
  have zm0 : 0 ≤ (a : Int) + (b : Int) := by omega
  have zm1 : (a : Int) + (b : Int) < 9223372036854775808 := by omega
  have zm2 : (mid : Int) < 9223372036854775808 := by omega
  have zm3 : IntKind.i64.wrap (mid : Int) = (mid : Int) := by rw [IntKind.wrap_i64]; omega
  have hmid2 : a < mid ∧ mid < b ∧ mid + mid ≤ a + b ∧ a + b ≤ mid + mid + 1 := by omega
  have HM : Aside (mid = (a + b) / 2) := hmid
  have HM2 : Aside (a < mid ∧ mid < b ∧ mid + mid ≤ a + b ∧ a + b ≤ mid + mid + 1) := hmid2
  clear hmid hmid2
  go_upto_if 140 with (fail)
  (try simp only [Act.put, List.setIfInBounds_toArray, List.set_cons_zero, List.set_cons_succ])
  clear zm zm0 zm1 zm2 zm3
  go_cut [20, 21] (fun v20 v21 wc => ∃ (lo hi : Nat), v20 = .int .i64 lo ∧ v21 = .int .i64 hi ∧ lo ≤ hi ∧ a ≤ lo ∧ mid + m ≤ b + lo ∧ hi ≤ m ∧ hi ≤ mid ∧ Hid ((if m > mid then sy_bs (fun c => !ltOf cf d[mid + m - 1 - c]! d[c]!) (mid + m - b) mid else sy_bs (fun c => !ltOf cf d[mid + m - 1 - c]! d[c]!) a m) = sy_bs (fun c => !ltOf cf d[mid + m - 1 - c]! d[c]!) lo hi) ∧ Aside (SW sy_int w0 blk off d wc))
  case first =>
    by_cases c3 : mid < m
    · have z3 : (mid : Int) < (m : Int) := by omega
      have zq : (mid : Int) + (m : Int) - (b : Int) = ((mid + m - b : Nat) : Int) := by have := HM2.out; omega
      go_wp2
      go_meet
      case rel => have := HM2.out; exact ⟨mid + m - b, mid, rfl, rfl, by omega, by omega, by omega, by omega, by omega, (show Hid _ from if_pos c3), S0⟩
    · have z3 : ¬ (mid : Int) < (m : Int) := by omega
      go_wp2
      go_meet
      case rel => have := HM2.out; exact ⟨a, m, rfl, rfl, by omega, by omega, by omega, by omega, by omega, (show Hid _ from if_neg c3), S0⟩
  case rest =>
    clear S0
    obtain ⟨lo, hi, rfl, rfl, hlh, hal, hbl, hhm, hhd, SEL, S0⟩ := hcut
    obtain ⟨p, hp⟩ : ∃ q, q = mid + m - 1 := ⟨_, rfl⟩
    have zp : (mid : Int) + (m : Int) - 1 = (p : Int) := by omega
    have HP : Aside (p = mid + m - 1) := hp
    clear hp
    go_upto_block 8 with (fail)
    rename_i hKb
    have HKb : Aside _ := hKb
    clear hKb
    go_wp2
    go_loopg [20, 21] (hi - lo) (fun g1 v1_ v2_ wr => ∃ (i j : Nat), v1_ = .int .i64 i ∧ v2_ = .int .i64 j ∧ lo ≤ i ∧ i ≤ j ∧ j ≤ hi ∧ j - i ≤ g1 ∧ Aside (SW sy_int w0 blk off d wr) ∧ Hid (sy_bs (fun c => !ltOf cf d[mid + m - 1 - c]! d[c]!) i j = sy_bs (fun c => !ltOf cf d[mid + m - 1 - c]! d[c]!) lo hi))
    case atStart => exact ⟨lo, hi, rfl, rfl, by omega, by omega, by omega, by omega, S0, rfl⟩
    case round =>
      clear S0
      obtain ⟨i, j, rfl, rfl, hi1, hij, hjb, hg1, S1, HO⟩ := hrel
      by_cases hlt : i < j
      · have hltz : (i : Int) < (j : Int) := by omega
        obtain ⟨h, hh⟩ : ∃ q, q = (i + j) / 2 := ⟨_, rfl⟩
        have zh : ((i : Int) + (j : Int)) / 2 = (h : Int) := by omega
        have z0 : 0 ≤ (i : Int) + (j : Int) := by omega
        have zb : (h : Int) < 9223372036854775808 := by omega
        have zw : IntKind.i64.wrap (h : Int) = (h : Int) := by rw [IntKind.wrap_i64]; omega
        have z3 : (i : Int) + (j : Int) < 9223372036854775808 := by omega
        have hhN : h < N := by omega
        have hmh : lo ≤ h ∧ i ≤ h ∧ h < j := by omega
        have hpp := HP.out
        obtain ⟨qq, hq⟩ : ∃ x, x = mid + m - 1 - h := ⟨_, rfl⟩
        have hqb : qq < N := by have := HM2.out; omega
        have zq2 : (p : Int) - (h : Int) = (qq : Int) := by omega
        have HQ : Aside (qq = mid + m - 1 - h) := hq
        clear hq hpp
        have HH : Aside (h = (i + j) / 2) := hh
        clear hh
        go_wp2_with fail
        obtain ⟨x, hx⟩ : ∃ x, x = d[qq]! := ⟨_, rfl⟩
        obtain ⟨y, hy⟩ : ∃ x, x = d[h]! := ⟨_, rfl⟩
        have la := S1.out.cl R (by omega) (qq) (by omega)
        have lb := S1.out.cl R (by omega) (h) (by omega)
        obtain ⟨iN, hiN⟩ : ∃ q, q = qq := ⟨_, rfl⟩
        obtain ⟨jN, hjN⟩ : ∃ q, q = h := ⟨_, rfl⟩
        rw [← hx, ← hiN] at la
        rw [← hy, ← hjN] at lb
        have hc := S1.out.cmp HC.out hs x y
        have e1 : ((qq : Int)).toNat = iN := by omega
        have e2 : ((h : Int)).toNat = jN := by omega
        have p1 : (0 : Int) ≤ (qq : Int) := by omega
        have p2 : (0 : Int) ≤ (h : Int) := by omega
        have b1 : (qq : Int) < (N : Int) := by omega
        have r1 : IntKind.i64.wrap ((qq : Int)) = (qq : Int) := by rw [IntKind.wrap_i64]; omega
        have b2 : (h : Int) < (N : Int) := by omega
        unfold sy_int at la lb hc
        have HV : Aside (ltOf cf d[qq]! d[h]! = decide (cf x y < 0)) := (by show _ = _; rw [hx, hy]; rfl : ltOf cf d[qq]! d[h]! = decide (cf x y < 0))
        clear zh z0 z3 zw hx hy hiN hjN
        have HV : Aside (ltOf cf d[mid + m - 1 - h]! d[h]! = decide (cf x y < 0)) := (by show _ = _; rw [← HQ.out]; exact HV.out : ltOf cf d[mid + m - 1 - h]! d[h]! = decide (cf x y < 0))
        go_wp2_with fail
        go_quiet_grown (first | (go_at_fn g; refine Calls.grown_of (hc _ _)))
        have S2 : Aside (SW sy_int w0 blk off d (grow (wr.drewN nq) osq)) := S1.out.grown nq osq
        clear la lb hc S1
        generalize grow (wr.drewN nq) osq = w2 at S2 ⊢
        clear nq osq
        clear e1 e2
        cases hv : decide (cf x y < 0) with
        | true =>
          rw [hv] at HV
          have hv' : cf x y < 0 := of_decide_eq_true hv
          have hv2 : decide (0 ≤ cf x y) = false := decide_eq_false (by omega)
          (try simp only [hv2, Bool.not_true, Bool.not_false])
          clear hv hv' hv2
          go_wp2_with fail
          go_roundg (h - i)
          case measure => omega
          case rel => exact ⟨i, h, rfl, rfl, hi1, by omega, by omega, Nat.le_refl _, S2, (show Hid _ from by rw [← HO.out, sy_bs_lt _ i j hlt, ← HH.out, if_neg (by rw [HV.out]; exact Bool.false_ne_true)]; exact rfl)⟩
        | false =>
          rw [hv] at HV
          have hv' : ¬ cf x y < 0 := of_decide_eq_false hv
          have hv2 : decide (0 ≤ cf x y) = true := decide_eq_true (by omega)
          (try simp only [hv2, Bool.not_true, Bool.not_false])
          clear hv hv' hv2
          go_wp2_with fail
          go_roundg (j - (h + 1))
          case measure => omega
          case rel => exact ⟨h + 1, j, by go_num, rfl, by omega, by omega, hjb, Nat.le_refl _, S2, (show Hid _ from by rw [← HO.out, sy_bs_lt _ i j hlt, ← HH.out, if_pos (by rw [HV.out]; rfl)]; exact rfl)⟩
      · have hltz : ¬ (i : Int) < (j : Int) := by omega
        have hs_ : Aside (i = sy_bs (fun c => !ltOf cf d[mid + m - 1 - c]! d[c]!) lo hi) := (by show _ = _; rw [← HO.out, sy_bs_ge _ i j hlt] : i = sy_bs (fun c => !ltOf cf d[mid + m - 1 - c]! d[c]!) lo hi)
        have hij2 : i = j := by omega
        subst hij2
        clear hij hlt HO hg1
        have hKb := HKb.out
        clear HKb
        obtain ⟨e, he⟩ : ∃ q, q = mid + m - i := ⟨_, rfl⟩
        have ze : (mid : Int) + (m : Int) - (i : Int) = (e : Int) := by omega
        have he2 : m ≤ e ∧ e ≤ b ∧ mid ≤ e ∧ i ≤ mid ∧ i ≤ m ∧ a ≤ i := by have := HM2.out; omega
        have HE : Aside (e = mid + m - i) := he
        clear he
        go_upto_region 38 with (fail)
        (try simp only [Act.put, List.setIfInBounds_toArray, List.set_cons_zero, List.set_cons_succ])
        go_cut [24] (fun v24 wc => v24 = .int .i64 e ∧ Aside (SW sy_int w0 blk off d wc))
        case first =>
          go_wp2
          go_meet
          case rel => exact ⟨rfl, S1⟩
        clear S1
        obtain ⟨rfl, S1⟩ := hcut
        rename_i hK
        refine hK _ _ (wp_seq_k ?_)
        clear hK
        intro K2 hK2
        go_cut [] (fun wc => ∃ (d1 : Array (Fin (K + 1))), d1.size = N ∧ Aside (SW sy_int w0 blk off d1 wc) ∧ Hid ((if i < m ∧ m < e then sy_rot m (e - i) (m - i) (e - m) d else d) = d1))
        case first =>
          by_cases ca : i < m
          · have za : (i : Int) < (m : Int) := by omega
            have zad : decide ((i : Int) < (m : Int)) = true := decide_eq_true za
            by_cases cb_ : m < e
            · have zb : (m : Int) < (e : Int) := by omega
              have zbd : decide ((m : Int) < (e : Int)) = true := decide_eq_true zb
              go_wp2_with (go_at_call 78; refine (hd_rotate' g cb blk off cap i m e (e - i) N d0 d w0 wc R (by omega) hs S1.out ca cb_ (by omega) (by omega) (by omega)).mono ?_; rintro e_ w2 ⟨rfl, S2⟩; have SA : Aside _ := S2; clear S1 S2)
              go_meet
              case rel => exact ⟨_, by rw [sy_rot_size]; exact hs, SA, (show Hid _ from if_pos ⟨ca, cb_⟩)⟩
            · have zb : ¬ (m : Int) < (e : Int) := by omega
              have zbd : decide ((m : Int) < (e : Int)) = false := decide_eq_false zb
              go_wp2
              go_meet
              case rel => exact ⟨d, hs, S1, (show Hid _ from if_neg (by omega))⟩
          · have za : ¬ (i : Int) < (m : Int) := by omega
            have zad : decide ((i : Int) < (m : Int)) = false := decide_eq_false za
            go_wp2
            go_meet
            case rel => exact ⟨d, hs, S1, (show Hid _ from if_neg (by omega))⟩
        case rest =>
          clear S1
          obtain ⟨d1, hs1, S1, HR1⟩ := hcut
          have hm2 := HM2.out
          exact hK2 _ _ (sy_tail g cb cf blk off cap N d0 w0 h0 hsz f IH.out a m b d d1 wc i mid e hf ham hmb hbN hs1 S1.out HR1 c1 c2 HM (SEL.out.trans hs_.out.symm) HE hm2 he2 _ rfl)
theorem hd_symMerge {K : Nat} (g : Nat) (cb : Array Value) (cf : Fin (K + 1) → Fin (K + 1) → Int) (blk off cap N : Nat) (d0 : Array (Fin (K + 1))) (w0 : World) (eg : ∀ args w, (callFunc g args).run Try.prog w = .ok (.enter g args) w)
    (hcmp : CmpLays1 Try.prog g cb sy_int cf blk off N w0) (R : Row1 (sy_int (K := K)) w0 blk off d0) (h0 : d0.size = N) (hsz : N < 4611686018427387904) :
    ∀ (f a m b : Nat) (d : Array (Fin (K + 1))) (w : World), b - a ≤ f → a < m → m < b → b ≤ N → d.size = N → SW sy_int w0 blk off d w →
    Calls Try.prog 77 #[.slice (some ⟨blk, off, none⟩) N cap, .int .i64 a, .int .i64 m, .int .i64 b, .func (.func g) #[] cb] w fun e w' => e = .returned (.tuple #[]) ∧ SW sy_int w0 blk off (sy_merge (ltOf cf) f a m b d) w' := by
  intro f
  induction f with
  | zero => intro a m b d w h1 h2 h3; omega
  | succ f ih =>
    intro a m b d w hf ham hmb hbN hs S
    by_cases c1 : m - a = 1
    · exact hd_symMerge_a g cb cf blk off cap N d0 w0 eg hcmp R h0 hsz f a m b d w hf ham hmb hbN hs S c1
    · by_cases c2 : b - m = 1
      · exact hd_symMerge_b g cb cf blk off cap N d0 w0 eg hcmp R h0 hsz f a m b d w hf ham hmb hbN hs S c1 c2
      · exact hd_symMerge_c g cb cf blk off cap N d0 w0 eg hcmp R h0 hsz f ih a m b d w hf ham hmb hbN hs S c1 c2
end Go.Proofs.Ytoalolbifakpiaa.P

/- What the functions on fares tell: tariffs, cards, fares, what cards make of them, what is paid back. -/
import Derived.Test.YtcihaeggjfpacaaA1
namespace Go.Proofs.Ytcihaeggjfpacaa.Pure
open Go.RowKit Go.Proofs.Ytcihaeggjfpacaa.P Go.Proofs.YtcihaeggjfpacaaW.PrintWords Go.Proofs.YtcihaeggjfpacaaW.PrintLast

def inB (x a b : Int) : Bool := decide (a ≤ x) && decide (x ≤ b)
theorem l01In (x a b : Int) : spec_l01In.f x a b = some (inB x a b) := by unfold spec_l01In.f inB; by_cases h : a ≤ x <;> simp [h]
theorem between (x a b : Int) : impl_between.f x a b = some (inB x a b) := by unfold impl_between.f inB; by_cases h : a ≤ x <;> simp [h]
theorem inB_iff {x a b : Int} : inB x a b = true ↔ a ≤ x ∧ x ≤ b := by simp [inB]

def tariffOk (b s : Int) (j : List Int) (r : Int) : Bool := inB b 0 100000 && inB s 0 100000 && decide ((j.length : Int) ≤ 20) && inB r 1 100 && j.all (fun n => inB n 0 100000)

theorem spec_tariff (b s : Int) (j : List Int) (r : Int) (h : j.length ≤ 1048576) : Ev (fun k => spec_TariffOk.f k b s j r) (tariffOk b s j r) := by
  have key := ev_all j (fun n => inB n 0 100000) (fun k i => spec_TariffOk.l0 k i b s j r) true (fun k => by simp [spec_TariffOk.l0])
    (fun k i hi hp => by simp [spec_TariffOk.l0, hi, l01In, rd, hp, w64s hi (by omega)]) (fun k i hi hp => by simp [spec_TariffOk.l0, hi, l01In, rd, hp])
  have j1 : Ev (fun k => spec_TariffOk.j0 k false b s j r) (j.all fun n => inB n 0 100000) := ev_at (by simpa using key) (fun k => by simp [spec_TariffOk.j0])
  have j2 : Ev (fun k => spec_TariffOk.j0 k true b s j r) false := ev_some (fun k => by simp [spec_TariffOk.j0])
  unfold spec_TariffOk.f tariffOk
  simp only [l01In, Option.bind_some]
  cases inB b 0 100000 <;> cases inB s 0 100000 <;> simp [j2]
  by_cases hl : (j.length : Int) ≤ 20
  · cases inB r 1 100 <;> simp [j1, j2, hl, show ¬ (20 < (j.length : Int)) by omega]
  · simp [hl, show 20 < (j.length : Int) by omega, j2]

theorem impl_tariff (b s : Int) (j : List Int) (r : Int) (h : j.length ≤ 1048576) : Ev (fun k => impl_TariffOk.f k b s j r) (tariffOk b s j r) := by
  have key := ev_all j (fun n => inB n 0 100000) (fun k i => impl_TariffOk.l0 k j j.length i) true (fun k => by simp [impl_TariffOk.l0])
    (fun k i hi hp => by simp [impl_TariffOk.l0, hi, between, rd, hp, w64s hi (by omega)]) (fun k i hi hp => by simp [impl_TariffOk.l0, hi, between, rd, hp])
  have j1 : Ev (fun k => impl_TariffOk.j0 k false b s j r) (j.all fun n => inB n 0 100000) := ev_at (by simpa using key) (fun k => by simp [impl_TariffOk.j0])
  have j2 : Ev (fun k => impl_TariffOk.j0 k true b s j r) false := ev_some (fun k => by simp [impl_TariffOk.j0])
  unfold impl_TariffOk.f tariffOk
  simp only [between, Option.bind_some]
  cases inB b 0 100000 <;> cases inB s 0 100000 <;> simp [j2]
  by_cases hl : (j.length : Int) ≤ 20
  · cases inB r 1 100 <;> simp [j1, j2, hl, show ¬ (20 < (j.length : Int)) by omega]
  · simp [hl, show 20 < (j.length : Int) by omega, j2]

def cardOk (c : S57) : Bool := inB c.f0 0 100 && inB c.f1 0 100000 && inB c.f3 0 1439 && inB c.f2 0 c.f3
def cardsOk (l : List S57) : Bool := l.all cardOk && decide ((l.length : Int) ≤ 6)

theorem spec_cards (l : List S57) (h : l.length ≤ 1048576) : Ev (fun k => spec_CardsOk.f k l) (cardsOk l) := by
  have key := ev_all l cardOk (fun k i => spec_CardsOk.l0 k l i) (decide ((l.length : Int) ≤ 6)) (fun k => by simp [spec_CardsOk.l0])
    (fun k i hi hp => by
      simp only [cardOk, Bool.and_eq_true] at hp
      simp [spec_CardsOk.l0, hi, l01In, rd_T57, hp, w64s hi (by omega)])
    (fun k i hi hp => by
      simp [spec_CardsOk.l0, l01In, rd_T57, hi]
      intro a b c d
      simp [cardOk, a, b, c, d] at hp)
  exact key

theorem cardOk_iff (c : S57) : cardOk c = true ↔ (inB c.f0 0 100 = true ∧ inB c.f1 0 100000 = true) ∧ 0 ≤ c.f2 ∧ c.f2 ≤ c.f3 ∧ c.f3 ≤ 1439 := by
  simp only [cardOk, Bool.and_eq_true, inB_iff]
  omega
theorem impl_cards (l : List S57) (h : l.length ≤ 1048576) : Ev (fun k => impl_CardsOk.f k l) (cardsOk l) := by
  have key := ev_all l cardOk (fun k i => impl_CardsOk.l0 k l l.length i) true (fun k => by simp [impl_CardsOk.l0])
    (fun k i hi hp => by
      obtain ⟨⟨a, b⟩, c, d, e⟩ := (cardOk_iff _).1 hp
      simp [impl_CardsOk.l0, between, rd_T57, hi, w64s hi (by omega), a, b, show ¬ (l[i].f2 < 0) by omega, show ¬ (l[i].f3 < l[i].f2) by omega, show ¬ (1439 < l[i].f3) by omega])
    (fun k i hi hp => by
      simp [impl_CardsOk.l0, between, rd_T57, hi]
      intro a b c d e
      have := (cardOk_iff _).2 ⟨⟨a, b⟩, c, d, e⟩
      rw [hp] at this
      simp at this)
  unfold impl_CardsOk.f cardsOk
  by_cases hl : (l.length : Int) ≤ 6
  · simpa [hl, show ¬ (6 < (l.length : Int)) by omega] using key
  · simp only [hl, decide_false, Bool.and_false]
    simp only [show (l.length : Int) > 6 by omega, if_true]
    exact Ev.now _
end Go.Proofs.Ytcihaeggjfpacaa.Pure

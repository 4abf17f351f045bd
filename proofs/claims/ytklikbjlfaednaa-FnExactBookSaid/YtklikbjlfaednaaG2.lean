/- Trains: copied, compared, tested. -/
import Derived.Test.YtklikbjlfaednaaG2t
namespace Go.Proofs.Ytklikbjlfaednaa.Pure
open Go.RowKit Go.Proofs.Ytklikbjlfaednaa.P Go.Proofs.YtklikbjlfaednaaW.PrintWords Go.Proofs.YtklikbjlfaednaaW.PrintLast

def unb (x : S89) : S66 := ⟨x.f0, x.f1, x.f2, x.f3⟩
theorem to_bookings (l : List S89) (h : l.length ≤ 1048576) : Ev (fun k => laws_toBookingS.f k l) (l.map unb) := by
  have key := ev_map z89 l unb (fun k acc i => laws_toBookingS.l0 k l acc i) (List.replicate l.length z66) (by simp)
    (fun k acc ha => by simp [laws_toBookingS.l0])
    (fun k acc i hi ha => by simp [laws_toBookingS.l0, laws_toBooking.f, w64s hi (by omega), hi, ha, rd_T89, unb])
  simpa [laws_toBookingS.f, show l.length ≤ 8796093022208 by omega] using key
theorem eq_bookings (l : List S66) (h : l.length ≤ 1048576) : Ev (fun k => laws_eqBookingS.f k l l) true := by
  have key := ev_true l.length (fun k i => laws_eqBookingS.l0 k l l i) (fun k => by simp [laws_eqBookingS.l0]) (fun k i hi => by simp [laws_eqBookingS.l0, laws_eqBooking.f, w64s hi (by omega), hi])
  simpa [laws_eqBookingS.f] using key
theorem to_train (a b : Int) (l : List S89) (h : l.length ≤ 1048576) : Ev (fun k => laws_toTrain.f k a b l) (a, b, l.map unb) := Ev.bind (to_bookings l h) (Ev.now _)
theorem eq_train (a b : Int) (l : List S66) (h : l.length ≤ 1048576) : Ev (fun k => laws_eqTrain.f k a b l a b l) true := by
  unfold laws_eqTrain.f
  simp only [if_true]
  exact Ev.bind (eq_bookings l h) (by simpa using Ev.now true)
theorem sz_train (a b : Int) (l : List S89) (n : Int) (h0 : 0 ≤ n) (h1 : n ≤ 1048576) (h : l.length ≤ maxLen) : laws_szTrain.f a b l n = some (if n < l.length then -1 else n - l.length) := by
  unfold maxLen at h
  unfold laws_szTrain.f laws_szBookingS.f
  rw [w64 (by omega) (by omega)]
  by_cases e : n - (l.length : Int) < 0
  · rw [if_pos e, if_pos (by omega)]
    rfl
  · rw [if_neg e, if_neg (by omega), Option.bind_some, if_neg (by omega)]
end Go.Proofs.Ytklikbjlfaednaa.Pure

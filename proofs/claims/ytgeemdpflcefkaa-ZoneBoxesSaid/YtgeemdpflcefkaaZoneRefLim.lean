/- chapter 09: the reference's bound more -/
import Derived.Test.YtgeemdpflcefkaaZx4
import Derived.Test.YtgeemdpflcefkaaZx12
import Derived.Test.YtgeemdpflcefkaaZx44
import Derived.Test.YtgeemdpflcefkaaZoneOneS
set_option linter.unusedVariables false
set_option linter.unusedSimpArgs false
namespace Go.Proofs.Ytgeemdpflcefkaa.DbmEv
open Go.RowKit Go.Proofs.Ytgeemdpflcefkaa.Z Go.Proofs.YtgeemdpflcefkaaW.PrintWords Go.Proofs.YtgeemdpflcefkaaW.PrintLast Go.Proofs.Ytgeemdpflcefkaa.DbmMath
theorem sq_le {n i j : Nat} (hn : n ≤ 8) (hi : i ≤ n) (hj : j ≤ n) : i * (n + 1) + j < 81 := by
  have := place_lt hi hj
  have := size_le hn
  omega
theorem idx {n : Nat} (hn : n ≤ 8) {i j : Nat} (hi : i ≤ n) (hj : j ≤ n) : wrap64 ((wrap64 ((i : Int) * ((n + 1 : Nat) : Int))) + (j : Int)) = ((i * (n + 1) + j : Nat) : Int) := by
  have h := sq_le hn hi hj
  have e : (i : Int) * ((n + 1 : Nat) : Int) = ((i * (n + 1) : Nat) : Int) := by rw [Int.natCast_mul]
  rw [e, w64 (x := ((i * (n + 1) : Nat) : Int)) (by omega) (by omega), w64 (by omega) (by omega)]
  omega
theorem ev_refLimit {n : Nat} (hn : n ≤ 8) {xs : List Int} (hx : xs = [] ∨ xs.length = (n + 1) * (n + 1)) {i j : Nat} (hi : i ≤ n) (hj : j ≤ n) (c : Int) : Ev (fun k => warrantorref09_Limit.f k (n : Int) xs (i : Int) (j : Int) c) ((n : Int), limZ n xs i j c) := by
  unfold warrantorref09_Limit.f limZ
  by_cases h0 : xs = []
  · simp only [if_pos (show (xs.length : Int) = 0 by rw [h0]; rfl), if_pos h0]
    exact Ev.const (by rw [h0])
  · have hl := hx.resolve_left h0
    have hp := place_lt hi hj
    have hs := size_le hn
    have hlp := List.length_pos_iff.2 h0
    simp only [if_neg (show ¬ (xs.length : Int) = 0 by omega), if_neg h0, Option.bind_some, List.length_nil, Nat.zero_add, if_pos (show xs.length < 17592186044416 by omega), List.nil_append, ref_at n hn i j hi hj, if_pos (show (0 : Int) ≤ ((i * (n + 1) + j : Nat) : Int) by omega), if_pos (show ((i * (n + 1) + j : Nat) : Int) < (xs.length : Int) by omega), Int.toNat_natCast]
    have e1 : limitL n xs i j c = xs.set (i * (n + 1) + j) (min (rd xs ((i * (n + 1) + j : Nat) : Int)) c) := by unfold limitL; rw [mn_eq]
    by_cases hc : c < rd xs ((i * (n + 1) + j : Nat) : Int)
    · simp only [if_pos hc]
      rw [e1, show min (rd xs ((i * (n + 1) + j : Nat) : Int)) c = c by omega]
      exact Ev.bind (ev_refClose hn (by rw [List.length_set]; exact hl)) (Ev.const rfl)
    · simp only [if_neg hc]
      rw [e1, show min (rd xs ((i * (n + 1) + j : Nat) : Int)) c = rd xs ((i * (n + 1) + j : Nat) : Int) by omega, rd_get (show i * (n + 1) + j < xs.length by omega), List.set_getElem_self]
      exact Ev.bind (ev_refClose hn hl) (Ev.const rfl)
/-! ### forgetting -/
end Go.Proofs.Ytgeemdpflcefkaa.DbmEv

import Derived.Test.YtgeemdpflcefkaaYx18
import Derived.Test.YtgeemdpflcefkaaYx19
import Derived.Test.YtgeemdpflcefkaaYx33
import Derived.Test.YtgeemdpflcefkaaPostBase
set_option linter.unusedVariables false
set_option linter.unusedSimpArgs false
/- chapter 08 in this seat: what a zone has, and the zone of all -/
namespace Go.Proofs.Ytgeemdpflcefkaa.DbmEv
open Go.RowKit Go.Proofs.Ytgeemdpflcefkaa.Y Go.Proofs.YtgeemdpflcefkaaW.PrintWords Go.Proofs.YtgeemdpflcefkaaW.PrintLast Go.Proofs.Ytgeemdpflcefkaa.DbmMath
end Go.Proofs.Ytgeemdpflcefkaa.DbmEv
/- chapter 09: which valuations the made zones have -/
namespace Go.Proofs.Ytgeemdpflcefkaa.DbmEv
open Go.RowKit Go.Proofs.Ytgeemdpflcefkaa.Y Go.Proofs.YtgeemdpflcefkaaW.PrintWords Go.Proofs.YtgeemdpflcefkaaW.PrintLast Go.Proofs.Ytgeemdpflcefkaa.DbmMath
theorem closeT_zone {n : Nat} (hn : n ≤ 8) {zs : List Int} (hl : zs.length = (n + 1) * (n + 1)) : isZone (n : Int) (closeT n zs) = true := by
  rcases closeT_cases hl with ⟨a, _⟩ | ⟨a, _, hD⟩
  · rw [a]; exact isZone_nil hn
  · exact (closure_zone hn a (cut_le n zs) hD).2.2
theorem limZ_zone {n : Nat} (hn : n ≤ 8) {xs : List Int} (h : xs = [] ∨ xs.length = (n + 1) * (n + 1)) (i j : Nat) (c : Int) : isZone (n : Int) (limZ n xs i j c) = true := by
  unfold limZ
  split
  · exact isZone_nil hn
  · next h0 => exact closeT_zone hn (by rw [limitL_len]; exact h.resolve_left h0)
theorem freeZ_zone {n : Nat} (hn : n ≤ 8) {xs : List Int} (h : xs = [] ∨ xs.length = (n + 1) * (n + 1)) (i : Nat) : isZone (n : Int) (freeZ n xs i) = true := by
  unfold freeZ
  split
  · exact isZone_nil hn
  · next h0 => exact closeT_zone hn (by rw [free_len]; exact h.resolve_left h0)
theorem letZ_zone {n : Nat} (hn : n ≤ 8) {xs : List Int} (h : xs = [] ∨ xs.length = (n + 1) * (n + 1)) (i j : Nat) (c : Int) : isZone (n : Int) (letZ n xs i j c) = true := by
  unfold letZ
  split
  · exact isZone_nil hn
  · split
    · split
      · exact isZone_nil hn
      · next h0 => exact closeT_zone hn (by rw [move_len]; exact h.resolve_left h0)
    · exact limZ_zone hn (limZ_fit (freeZ_fit h i) i j c) j i _
theorem at_move {n : Nat} {xs : List Int} (hl : xs.length = (n + 1) * (n + 1)) {i : Nat} (hi : i ≤ n) (c : Int) (hc : -2199023255552 ≤ c ∧ c ≤ 2199023255552) (hd : at_ n xs i i = 0)
    (hr : ∀ a b, a ≤ n → b ≤ n → -2199023255553 ≤ at_ n xs a b ∧ at_ n xs a b ≤ 2199023255553) :
    ∀ k, k ≤ n + 1 → ∀ a b, a ≤ n → b ≤ n → at_ n (moveTo i n c xs k) a b = if a = i ∧ ¬ b = i ∧ b < k then at_ n xs a b + c else if b = i ∧ ¬ a = i ∧ a < k then at_ n xs a b - c else at_ n xs a b
  | 0, _, a, b, _, _ => by rw [if_neg (by omega), if_neg (by omega)]; rfl
  | k + 1, hk, a, b, ha, hb => by
    by_cases hki : k = i
    · subst hki
      rw [move_skip hl hi c hc hd, at_move hl hi c hc hd hr k (by omega) a b ha hb]
      by_cases h1 : a = k ∧ ¬ b = k ∧ b < k
      · rw [if_pos h1, if_pos (by omega)]
      · rw [if_neg h1, if_neg (show ¬ (a = k ∧ ¬ b = k ∧ b < k + 1) by omega)]
        by_cases h2 : b = k ∧ ¬ a = k ∧ a < k
        · rw [if_pos h2, if_pos (by omega)]
        · rw [if_neg h2, if_neg (by omega)]
    · have hl1 : (moveTo i n c xs k).length = (n + 1) * (n + 1) := by rw [move_len]; exact hl
      have ih := at_move hl hi c hc hd hr k (by omega)
      have r1 := hr i k hi (by omega)
      have r2 := hr k i (by omega) hi
      have e1 : rd (moveTo i n c xs k) ((i * (n + 1) + k : Nat) : Int) = at_ n xs i k := by
        have := ih i k hi (by omega)
        rw [if_neg (by omega), if_neg (by omega)] at this
        exact this
      have e2 : rd ((moveTo i n c xs k).set (i * (n + 1) + k) (at_ n xs i k + c)) ((k * (n + 1) + i : Nat) : Int) = at_ n xs k i := by
        have h3 := at_set (n := n) hl1 hi (show k ≤ n by omega) (show k ≤ n by omega) hi (at_ n xs i k + c)
        rw [if_neg (by omega), ih k i (by omega) hi, if_neg (by omega), if_neg (by omega)] at h3
        exact h3
      unfold moveTo
      rw [e1, w64 (x := at_ n xs i k + c) (by omega) (by omega), e2, w64 (x := at_ n xs k i - c) (by omega) (by omega)]
      rw [at_set (by rw [List.length_set]; exact hl1) (by omega) hi ha hb, at_set hl1 hi (by omega) ha hb, ih a b ha hb]
      by_cases h1 : a = k ∧ b = i
      · obtain ⟨rfl, rfl⟩ := h1
        rw [if_pos ⟨rfl, rfl⟩, if_neg (by omega), if_pos (by omega)]
      · rw [if_neg h1]
        by_cases h2 : a = i ∧ b = k
        · obtain ⟨rfl, rfl⟩ := h2
          rw [if_pos ⟨rfl, rfl⟩, if_pos (by omega)]
        · rw [if_neg h2]
          by_cases h3 : a = i ∧ ¬ b = i ∧ b < k
          · rw [if_pos h3, if_pos (by omega)]
          · rw [if_neg h3, if_neg (show ¬ (a = i ∧ ¬ b = i ∧ b < k + 1) by omega)]
            by_cases h4 : b = i ∧ ¬ a = i ∧ a < k
            · rw [if_pos h4, if_pos (by omega)]
            · rw [if_neg h4, if_neg (by omega)]
theorem closed_range {n : Nat} {xs : List Int} (hC : IsClosure n (cut n xs) (at_ n xs)) {a b : Nat} (ha : a ≤ n) (hb : b ≤ n) : -2199023255552 ≤ at_ n xs a b ∧ at_ n xs a b ≤ 2199023255552 := by
  have h1 := hC.1.above hC.2.1 (cut_le n xs) ha hb
  have h2 := Int.le_trans (hC.2.1 a b ha hb) (cut_le n xs a b)
  have h3 := far_le a b
  omega
end Go.Proofs.Ytgeemdpflcefkaa.DbmEv

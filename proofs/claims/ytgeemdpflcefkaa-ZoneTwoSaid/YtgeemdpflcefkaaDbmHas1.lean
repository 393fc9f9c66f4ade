/- chapter 08: dbm.Has, the closure as a zone, and what DbmHas asks -/
import Derived.Test.YtgeemdpflcefkaaZx7
import Derived.Test.YtgeemdpflcefkaaDbmHas0
set_option linter.unusedVariables false
set_option linter.unusedSimpArgs false
namespace Go.Proofs.Ytgeemdpflcefkaa.DbmEv
open Go.RowKit Go.Proofs.Ytgeemdpflcefkaa.Z Go.Proofs.YtgeemdpflcefkaaW.PrintWords Go.Proofs.YtgeemdpflcefkaaW.PrintLast Go.Proofs.Ytgeemdpflcefkaa.DbmMath
theorem closure_cut {n : Nat} {c D : Mat} (h : IsClosure n c D) (hc : ∀ i j, c i j ≤ far i j) {i j : Nat} (hi : i ≤ n) (hj : j ≤ n) : clip D i j = D i j := by
  have h1 := h.1.above h.2.1 hc hi hj
  have h2 := h.2.1 i j hi hj
  have h3 := hc i j
  unfold clip B; omega
theorem closure_zone {n : Nat} (hn : n ≤ 8) {xs : List Int} (hl : xs.length = (n + 1) * (n + 1)) {c : Mat} (hc : ∀ i j, c i j ≤ far i j) (h : IsClosure n c (at_ n xs)) : closeOk n xs = true ∧ closeTo n xs (n + 1) = xs ∧ isZone (n : Int) xs = true := by
  have h1 : IsClosure n (cut n xs) (at_ n xs) := by
    refine ⟨h.1, fun i j hi hj => ?_, fun X hX hu i j hi hj => ?_⟩
    · unfold cut; rw [closure_cut h hc hi hj]; exact Int.le_refl _
    · have := hu i j hi hj
      unfold cut at this
      rwa [closure_cut h hc hi hj] at this
  rcases prog_close hl with ⟨h2, h3⟩ | ⟨_, h3⟩
  · have e : closeTo n xs (n + 1) = xs := list_eq (by rw [closeTo_length]; exact hl) hl (h3.unique h1)
    refine ⟨h2, e, ?_⟩
    unfold isZone
    have hf := fits_of hn hl
    have hv : vars (n : Int) = true := by unfold fits at hf; rw [Bool.and_eq_true] at hf; exact hf.1
    rw [hv, Bool.true_and, Bool.or_eq_true]
    refine Or.inr (decide_eq_true ⟨hf, ?_, ?_⟩)
    · simpa using h2
    · simpa using e
  · exact absurd h3 h1.not_dead
/-! ### valuations of the matrix are those of the closure -/
def dif (v : List Int) : Mat := fun i j => wv v i - wv v j
theorem Val.closed {n : Nat} {m : Mat} {v : List Int} : Closed n (dif v) := ⟨fun i j k _ _ _ => by unfold dif; omega, fun i _ => by unfold dif; omega⟩
theorem Val.under {n : Nat} {xs v : List Int} (h : Val n (at_ n xs) v) : Under n (dif v) (cut n xs) := by
  intro i j hi hj
  have h1 := h.2 i j hi hj
  have h2 := h.1 i hi
  have h3 := h.1 j hj
  have h4 : dif v i j ≤ far i j := by
    unfold dif far
    by_cases e1 : i = j
    · rw [if_pos e1, e1]; omega
    · rw [if_neg e1]
      by_cases e2 : i = 0
      · rw [if_pos e2, e2, wv_zero]; omega
      · rw [if_neg e2]
        by_cases e3 : j = 0
        · rw [if_pos e3, e3, wv_zero]; omega
        · rw [if_neg e3]; omega
  unfold cut clip
  have : dif v i j = wv v i - wv v j := rfl
  omega
theorem val_closure {n : Nat} {xs v : List Int} {D : Mat} (hD : IsClosure n (cut n xs) D) : Val n D v ↔ Val n (at_ n xs) v := by
  constructor
  · intro h
    refine ⟨h.1, fun i j hi hj => ?_⟩
    have h1 := h.2 i j hi hj
    have h2 := hD.2.1 i j hi hj
    have h3 := hD.1.above hD.2.1 (cut_le n xs) hi hj
    unfold cut clip B at h2
    omega
  · intro h
    exact ⟨h.1, hD.2.2 _ (Val.closed (m := D)) h.under⟩
theorem dead_val {n : Nat} {xs v : List Int} (hD : Dead n (cut n xs)) : ¬ Val n (at_ n xs) v := fun h => hD _ (Val.closed (m := at_ n xs)) h.under
end Go.Proofs.Ytgeemdpflcefkaa.DbmEv

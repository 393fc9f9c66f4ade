import Derived.Test.YtgeemdpflcefkaaZx7
import Derived.Test.YtgeemdpflcefkaaZx35
import Derived.Test.YtgeemdpflcefkaaDbmRef
set_option linter.unusedVariables false
set_option linter.unusedSimpArgs false
namespace Go.Proofs.Ytgeemdpflcefkaa.DbmEv
open Go.RowKit Go.Proofs.Ytgeemdpflcefkaa.Z Go.Proofs.YtgeemdpflcefkaaW.PrintWords Go.Proofs.YtgeemdpflcefkaaW.PrintLast Go.Proofs.Ytgeemdpflcefkaa.DbmMath
theorem isZone_nil {n : Nat} (hn : n ≤ 8) : isZone (n : Int) [] = true := by
  unfold isZone vars
  simp; omega
theorem zone_cases {a : Int} {xs : List Int} (h : isZone a xs = true) : ∃ n : Nat, a = n ∧ n ≤ 8 ∧ (xs = [] ∨ (¬ xs = [] ∧ xs.length = (n + 1) * (n + 1) ∧ IsClosure n (cut n xs) (at_ n xs))) := by
  unfold isZone at h
  rw [Bool.and_eq_true, Bool.or_eq_true, decide_eq_true_eq, decide_eq_true_eq] at h
  obtain ⟨hv, hx⟩ := h
  by_cases h0 : xs = []
  · have hv2 := of_decide_eq_true hv
    exact ⟨a.toNat, by omega, by omega, .inl h0⟩
  · rcases hx with hx | ⟨hf, hc, he⟩
    · exact absurd hx h0
    · obtain ⟨n, rfl, hn, hl⟩ := fits_n hf
      rw [Int.toNat_natCast] at hc he
      rcases prog_close hl with ⟨_, hD⟩ | ⟨hD, _⟩
      · rw [he] at hD
        exact ⟨n, rfl, hn, .inr ⟨h0, hl, hD⟩⟩
      · rw [hD] at hc; cases hc
theorem ev_refCheck (a : Int) (xs : List Int) (hx : xs.length ≤ 200) : Ev (fun k => warrantorref08_Check.f k a xs) (isZone a xs) := by
  unfold warrantorref08_Check.f
  simp only [refVars_f, Option.bind_some]
  by_cases hv : vars a = true
  · simp only [if_pos hv]
    by_cases h0 : xs = []
    · subst h0
      refine Ev.const ?_
      unfold isZone
      rw [hv]; rfl
    · have hne : ¬ (xs.length : Int) = 0 := fun h => h0 (List.eq_nil_of_length_eq_zero (by omega))
      simp only [if_neg hne, size_eq hv]
      by_cases hl : xs.length = (a.toNat + 1) * (a.toNat + 1)
      · have hf : fits a xs = true := by unfold fits; rw [hv, decide_eq_true hl]; rfl
        obtain ⟨n, rfl, hn, hl2⟩ := fits_n hf
        rw [Int.toNat_natCast] at hl ⊢
        simp only [if_pos (show (xs.length : Int) = (((n + 1) * (n + 1) : Nat) : Int) by rw [hl])]
        refine Ev.bind (ev_refClose hn hl2) ?_
        have hcl : (if closeOk n xs = true then closeTo n xs (n + 1) else []).length ≤ 4611686018427387904 := by
          split
          · rw [closeTo_length]; omega
          · simp
        refine Ev.bind (ev_refSame _ _ _ _ hcl) ?_
        refine Ev.const ?_
        unfold isZone
        rw [hv, decide_eq_false h0, hf, Int.toNat_natCast]
        congr 1
        by_cases hc : closeOk n xs = true
        · simp [hc]
        · simp only [if_neg hc]
          have hc2 : closeOk n xs = false := by simpa using hc
          rw [hc2]
          simp
          exact fun h => h0 h
      · simp only [if_neg (show ¬ (xs.length : Int) = (((a.toNat + 1) * (a.toNat + 1) : Nat) : Int) by omega)]
        refine Ev.const ?_
        have hf : fits a xs = false := by unfold fits; rw [decide_eq_false hl, Bool.and_false]
        unfold isZone
        rw [hv, decide_eq_false h0, hf]
        simp
  · simp only [if_neg hv]
    refine Ev.const ?_
    have hv2 : vars a = false := by simpa using hv
    unfold isZone
    rw [hv2]; rfl
end Go.Proofs.Ytgeemdpflcefkaa.DbmEv

/- The value of any text, or that it is none's; it is shown as this text: the walk's pure function answers true for all inputs. -/
import Derived.Test.YtgbndakiiblhmaaDoorQx8
import Derived.Test.YtgbndakiiblhmaaDoorValNum
namespace Go.Proofs.YtgbndakiiblhmaaDoor.ValEv
open Go.RowKit Go.Proofs.YtgbndakiiblhmaaDoor.Q Go.Proofs.YtgbndakiiblhmaaDoorW.PrintWords Go.Proofs.YtgbndakiiblhmaaDoorW.PrintLast
theorem pure_ValParses : warrantorlaw06_ValParses.Pure := by
  intro s _
  obtain ⟨k0, hk⟩ := refParse_ev s
  refine ⟨k0, ?_⟩
  unfold warrantorlaw06_ValParses.f
  by_cases h : (s.size : Int) > 1000
  · simp only [if_pos h, lives_f, Option.bind_some]
  · simp only [if_neg h, parse_f, hk k0 (Nat.le_refl _), lives_f, Option.bind_some, if_pos, show_f]
    rcases parse_both s with ⟨h1, h2, h3⟩ | ⟨h1, h2⟩
    · rw [h2]
      simp only [h1, if_pos, h3, beq_self_eq_true]
    · rw [h1, h2]
      rfl
end Go.Proofs.YtgbndakiiblhmaaDoor.ValEv
namespace Go.Proofs.YtgbndakiiblhmaaDoor.Pure
open Go.RowKit Go.Proofs.YtgbndakiiblhmaaDoor.Q Go.Proofs.YtgbndakiiblhmaaDoorW.PrintWords Go.Proofs.YtgbndakiiblhmaaDoorW.PrintLast
theorem ValParses : warrantorlaw06_ValParses.Pure := ValEv.pure_ValParses
end Go.Proofs.YtgbndakiiblhmaaDoor.Pure

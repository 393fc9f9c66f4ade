-- WRITTEN BY this session's program wip/ext.py, in print.py's manner
import Derived.Test.YtkailfmehmgolaaDoorRx0
namespace Go.Proofs.YtkailfmehmgolaaDoor.R
open Go.RowKit Go.Proofs.YtkailfmehmgolaaDoorW.PrintWords Go.Proofs.YtkailfmehmgolaaDoorW.PrintLast Go.Proofs.YtkailfmehmgolaaDoorW.PrintMore
attribute [local go_sem] max2_int min2_int max_two min_two max_three min_three max_four min_four   -- for this text's walks alone
set_option linter.unusedVariables false
set_option linter.unusedSimpArgs false

/-! ### ext strings_CutSuffix: function 45 -/
def strings_CutSuffix.f (a0 a1 : ByteArray) : Option (ByteArray × Bool) := if a0.size ≤ 1000000 then some (⟨(Go.Lib.trimSuffix a0.data.toList a1.data.toList).toArray⟩, Go.Lib.hasSuffix a0.data.toList a1.data.toList) else none
theorem strings_CutSuffix.calls (a0 a1 : ByteArray) (r1 : ByteArray) (r2 : Bool) (w : World) (h : strings_CutSuffix.f a0 a1 = some (r1, r2)) :
    Calls Tryd.prog 45 #[.string a0, .string a1] w fun e w' => e = .returned (.tuple #[.string r1, .bool r2]) ∧ Drawn0 w w' := by
  unfold strings_CutSuffix.f at h
  split at h
  · next hs =>
    obtain ⟨rfl, rfl⟩ : _ = r1 ∧ _ = r2 := by simpa using h
    refine (Tryd.strings_CutSuffix a0 a1 w (by omega)).mono ?_
    rintro e w' ⟨rfl, rfl⟩
    exact ⟨rfl, Drawn0.refl _⟩
  · cases h

end Go.Proofs.YtkailfmehmgolaaDoor.R

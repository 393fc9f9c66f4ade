-- WRITTEN BY this session's program wip/ext.py, in print.py's manner
import Derived.Test.YtkailfmehmgolaaDoorRx0
import Derived.Test.YtkailfmehmgolaaDoorRx7
namespace Go.Proofs.YtkailfmehmgolaaDoor.R
open Go.RowKit Go.Proofs.YtkailfmehmgolaaDoorW.PrintWords Go.Proofs.YtkailfmehmgolaaDoorW.PrintLast Go.Proofs.YtkailfmehmgolaaDoorW.PrintMore
attribute [local go_sem] max2_int min2_int max_two min_two max_three min_three max_four min_four   -- for this text's walks alone
set_option linter.unusedVariables false
set_option linter.unusedSimpArgs false

/-! ### ext strings_Cut: function 46 -/
def strings_Cut.f (a0 a1 : ByteArray) : Option (ByteArray × ByteArray × Bool) := if a0.size ≤ 1000000 then some (⟨(Go.Lib.cut a0.data.toList a1.data.toList).1.toArray⟩, ⟨(Go.Lib.cut a0.data.toList a1.data.toList).2.1.toArray⟩, (Go.Lib.cut a0.data.toList a1.data.toList).2.2) else none
theorem strings_Cut.calls (a0 a1 : ByteArray) (r1 r2 : ByteArray) (r3 : Bool) (w : World) (htab : TB w) (h : strings_Cut.f a0 a1 = some (r1, r2, r3)) :
    Calls Tryd.prog 46 #[.string a0, .string a1] w fun e w' => e = .returned (.tuple #[.string r1, .string r2, .bool r3]) ∧ Drawn0 w w' := by
  unfold strings_Cut.f at h
  split at h
  · next hs =>
    obtain ⟨rfl, rfl, rfl⟩ : _ = r1 ∧ _ = r2 ∧ _ = r3 := by simpa using h
    obtain ⟨m, hm⟩ := htab.2
    refine (Tryd.strings_Cut a0 a1 m w (by omega) hm).mono ?_
    rintro e w' ⟨rfl, h2⟩
    exact ⟨rfl, ⟨h2⟩⟩
  · cases h

end Go.Proofs.YtkailfmehmgolaaDoor.R

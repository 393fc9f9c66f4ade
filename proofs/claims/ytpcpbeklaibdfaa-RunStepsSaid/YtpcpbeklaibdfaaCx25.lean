import Derived.Test.YtpcpbeklaibdfaaCx0
namespace Go.Proofs.Ytpcpbeklaibdfaa.C
open Go.RowKit Go.Proofs.YtpcpbeklaibdfaaW.PrintWords Go.Proofs.YtpcpbeklaibdfaaW.PrintLast Go.Proofs.YtpcpbeklaibdfaaW.PrintMore
attribute [local go_sem] max2_int min2_int max_two min_two max_three min_three max_four min_four   -- for this text's walks alone
set_option linter.unusedVariables false
set_option linter.unusedSimpArgs false
set_option maxHeartbeats 8000000 in
set_option maxRecDepth 100000 in
theorem run_mover_skip.walk (v : Value) (w : World) : Calls Try.prog 60 #[v] w fun e w' => e = .returned (.int .i64 0) ∧ Below w.heap.size w w' := by
  go_enter Try.func60, Try.ntmps60
  go_wp2
  go_ret
  exact ⟨rfl, Below.refl _ _⟩
end Go.Proofs.Ytpcpbeklaibdfaa.C

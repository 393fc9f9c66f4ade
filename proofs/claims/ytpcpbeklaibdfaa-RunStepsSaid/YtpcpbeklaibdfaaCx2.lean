import Derived.Test.YtpcpbeklaibdfaaCx0
namespace Go.Proofs.Ytpcpbeklaibdfaa.C
open Go.RowKit Go.Proofs.YtpcpbeklaibdfaaW.PrintWords Go.Proofs.YtpcpbeklaibdfaaW.PrintLast Go.Proofs.YtpcpbeklaibdfaaW.PrintMore
attribute [local go_sem] max2_int min2_int max_two min_two max_three min_three max_four min_four   -- for this text's walks alone
set_option linter.unusedVariables false
set_option linter.unusedSimpArgs false
section
variable {P : Program} {ops : Array Oper} {Q : Exit → Act → World → Prop}
end
section
variable {P : Program} {ops : Array Oper} {Q : Exit → Act → World → Prop}
/-- The same in a plain region, as an arm. -/
theorem goesG_ {rest : List Oper} {oi : Oper} {a : Act} {w : World} {f : FuncId} {x : Operand} {aso : Array Operand} {ts : Array TypeId} (cap : Array Value) (args : Array Value)
    (he : (callFunc f (args ++ cap)).run P w = .ok (.enter f (args ++ cap)) w) {N : Option Tmp} (hd : oi.dst = N) (hg : oi.guard = none)
    (hop : oi.op = .call { callee := .value x, args := aso, argTypes := ts }) (hx : a.eval x = .func (.func f) #[] cap) (hargs : aso.map a.eval = args)
    (h : Calls P f (args ++ cap) w fun e w' => ∃ v, e = .returned v ∧ wpList P ops Q rest (a.put N v) w') : wpList P ops Q (oi :: rest) a w := by
  refine wpList_plain hg fun K hK => ?_
  have hrun : (execOp a.eval oi).run P w = .ok (.enter f (args ++ cap)) w := by
    unfold execOp
    simp [hop, resolve, Deferred.ofValue, hx, invoke, hargs, he]
  unfold Oper.wp
  rw [hrun, Oper.upon_enter]
  refine h.mono fun e w'' hh => ?_
  obtain ⟨v, rfl, hk⟩ := hh
  subst hd
  exact hK _ _ hk
end
/-! Cells that are set one behind the other; a row out of its cells. -/
section
variable {P : Program} {ops : Array Oper} {Q : Exit → Act → World → Prop}
end
end Go.Proofs.Ytpcpbeklaibdfaa.C

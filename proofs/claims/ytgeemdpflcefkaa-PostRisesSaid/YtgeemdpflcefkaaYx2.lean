import Derived.Test.YtgeemdpflcefkaaYx0
namespace Go.Proofs.Ytgeemdpflcefkaa.Y
open Go.RowKit Go.Proofs.YtgeemdpflcefkaaW.PrintWords Go.Proofs.YtgeemdpflcefkaaW.PrintLast Go.Proofs.YtgeemdpflcefkaaW.PrintMore
attribute [local go_sem] max2_int min2_int max_two min_two max_three min_three max_four min_four   -- for this text's walks alone
set_option linter.unusedVariables false
set_option linter.unusedSimpArgs false
section
variable {P : Program} {ops : Array Oper} {Q : Exit → Act → World → Prop}
/-- A call of a function value (a function with what it has captured), by the function's contract. -/
theorem goesV_ {oi : Oper} {N : Option Tmp} {a : Act} {w : World} {K : Act → World → Prop} {f : FuncId} {x : Operand} {aso : Array Operand} {ts : Array TypeId} (cap : Array Value) (args : Array Value)
  (he : (callFunc f (args ++ cap)).run P w = .ok (.enter f (args ++ cap)) w)
  (hw : Region.wanted oi (yielded ops a.tmps) = true) (hN : oi.dst = N) (hop : oi.op = .call { callee := .value x, args := aso, argTypes := ts }) (hx : a.eval x = .func (.func f) #[] cap) (hargs : aso.map a.eval = args)
  (h : Calls P f (args ++ cap) w fun e w' => ∃ v, e = .returned v ∧ K (a.put N v) w') : if Region.wanted oi (yielded ops a.tmps) = true then Oper.wp P oi a w K Q else K (a.put N undef) w := by
 refine call_ f (args ++ cap) hw hN ?_ h
 unfold execOp
 simp [hop, resolve, Deferred.ofValue, hx, invoke, hargs, he]
end
section
variable {P : Program} {ops : Array Oper} {Q : Exit → Act → World → Prop}
/-- The same in a plain region, as an arm. -/
theorem goesG_ {rest : List Oper} {oi : Oper} {a : Act} {w : World} {f : FuncId} {x : Operand} {aso : Array Operand} {ts : Array TypeId} (cap : Array Value) (args : Array Value)
  (he : (callFunc f (args ++ cap)).run P w = .ok (.enter f (args ++ cap)) w) {N : Option Tmp} (hd : oi.dst = N) (hg : oi.guard = none)
  (hop : oi.op = .call { callee := .value x, args := aso, argTypes := ts }) (hx : a.eval x = .func (.func f) #[] cap) (hargs : aso.map a.eval = args)
  (h : Calls P f (args ++ cap) w fun e w' => ∃ v, e = .returned v ∧ wpList P ops Q rest (a.put N v) w') : wpList P ops Q (oi :: rest) a w := by
 refine wpList_plain hg fun K hK => ?_
 have hrun : (execOp a.eval oi).run P w = .ok (.enter f (args ++ cap)) w := by
  unfold execOp
  simp [hop, resolve, Deferred.ofValue, hx, invoke, hargs, he]
 unfold Oper.wp
 rw [hrun, Oper.upon_enter]
 refine h.mono fun e w'' hh => ?_
 obtain ⟨v, rfl, hk⟩ := hh
 subst hd
 exact hK _ _ hk
end
/-! Cells that are set one behind the other; a row out of its cells. -/
section
variable {P : Program} {ops : Array Oper} {Q : Exit → Act → World → Prop}
end
end Go.Proofs.Ytgeemdpflcefkaa.Y

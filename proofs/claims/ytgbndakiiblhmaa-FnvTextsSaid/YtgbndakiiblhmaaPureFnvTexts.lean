/- The text of any sum, parsed as it was, and the sum of any text: the walk's pure function answers true for all inputs. -/
import Derived.Test.YtgbndakiiblhmaaFnvTx
namespace Go.Proofs.Ytgbndakiiblhmaa.FnvEv
open Go.RowKit Go.Proofs.Ytgbndakiiblhmaa.N Go.Proofs.YtgbndakiiblhmaaW.PrintWords Go.Proofs.YtgbndakiiblhmaaW.PrintLast
theorem pure_FnvTexts : warrantorlaw19_FnvTexts.Pure := by
  intro a s ha hs
  have hU := U_wf ha
  apply Ev.get
  unfold warrantorlaw19_FnvTexts.f
  by_cases c1 : (s.size : Int) > 1000
  · simp only [if_pos c1, Option.bind_fun_some]; exact ev_lives
  · simp only [if_neg c1]
    refine Ev.bind (ev_Show hU) ?_
    refine Ev.bind (ev_Parse (strOfNums (sh a 16))) ?_
    refine Ev.bind (ev_Parse s) ?_
    refine Ev.bind (ev_refParse s) ?_
    refine Ev.bind ev_lives ?_
    simp only [if_pos]
    refine Ev.bind (ev_refShow hU) ?_
    simp only [show_same, if_pos]
    rw [← show_same, parse_show hU]
    simp only [resP, if_pos]
    cases parseO s with
    | none => exact Ev.const rfl
    | some n => simp only [resP, resR, if_pos]; exact Ev.const rfl
end Go.Proofs.Ytgbndakiiblhmaa.FnvEv
namespace Go.Proofs.Ytgbndakiiblhmaa.Pure
open Go.RowKit Go.Proofs.Ytgbndakiiblhmaa.N Go.Proofs.YtgbndakiiblhmaaW.PrintWords Go.Proofs.YtgbndakiiblhmaaW.PrintLast
theorem FnvTexts : warrantorlaw19_FnvTexts.Pure := FnvEv.pure_FnvTexts
end Go.Proofs.Ytgbndakiiblhmaa.Pure

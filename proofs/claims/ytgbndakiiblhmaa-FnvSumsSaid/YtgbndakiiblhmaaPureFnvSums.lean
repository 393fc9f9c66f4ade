/- The sum of any bytes, one row behind the other, is the reference's: the walk's pure function answers true for all inputs. -/
import Derived.Test.YtgbndakiiblhmaaFnvEv
namespace Go.Proofs.Ytgbndakiiblhmaa.FnvEv
open Go.RowKit Go.Proofs.Ytgbndakiiblhmaa.N Go.Proofs.YtgbndakiiblhmaaW.PrintWords Go.Proofs.YtgbndakiiblhmaaW.PrintLast
theorem pure_FnvSums : warrantorlaw19_FnvSums.Pure := by
  intro a l1 l2 ha _ h1 _ _ h2 _
  have hU := U_wf ha
  have n1 : l1.length ≤ 4611686018427387904 := by omega
  have n2 : l2.length ≤ 4611686018427387904 := by omega
  have n3 : (l1 ++ l2).length ≤ 4611686018427387904 := by rw [List.length_append]; omega
  apply Ev.get
  unfold warrantorlaw19_FnvSums.f
  have hlives : Ev (fun k => warrantorlaw19_FnvSums.j0 k a l1 l2 true) true := by
    refine Ev.succ (fun k => by rw [warrantorlaw19_FnvSums.j0]) ?_
    simp only [if_pos, Option.bind_fun_some]
    exact ev_lives
  by_cases c1 : (l1.length : Int) > 3000
  · simp only [if_pos c1]; exact hlives
  · simp only [if_neg c1]
    by_cases c2 : (l2.length : Int) > 3000
    · simp only [c2, decide_true]; exact hlives
    · simp only [c2, decide_false]
      refine Ev.succ (fun k => by rw [warrantorlaw19_FnvSums.j0]) ?_
      simp only [if_neg Bool.false_ne_true, Option.bind_some, List.length_nil, List.nil_append, if_pos (show 0 + l1.length < 140737488355328 by omega), if_pos (show l1.length + l2.length < 140737488355328 by omega)]
      refine Ev.bind ev_lives ?_
      simp only [if_pos]
      refine Ev.bind (ev_Sum n1) ?_
      refine Ev.bind (ev_refSum n1) ?_
      simp only [if_pos]
      refine Ev.bind (ev_More hU n1) ?_
      refine Ev.bind (ev_refMore hU n1) ?_
      simp only [if_pos]
      refine Ev.bind (ev_More hU n1) ?_
      refine Ev.bind (ev_More (U_toNat _) n2) ?_
      refine Ev.bind (ev_More hU n3) ?_
      simp only [bv_toNat, more_append, if_pos]
      refine Ev.bind (ev_Sum n1) ?_
      refine Ev.bind (ev_More (U_toNat _) n2) ?_
      refine Ev.bind (ev_Sum n3) ?_
      simp only [bv_toNat, more_append, beq_self_eq_true]
      exact Ev.const rfl
end Go.Proofs.Ytgbndakiiblhmaa.FnvEv
namespace Go.Proofs.Ytgbndakiiblhmaa.Pure
open Go.RowKit Go.Proofs.Ytgbndakiiblhmaa.N Go.Proofs.YtgbndakiiblhmaaW.PrintWords Go.Proofs.YtgbndakiiblhmaaW.PrintLast
theorem FnvSums : warrantorlaw19_FnvSums.Pure := FnvEv.pure_FnvSums
end Go.Proofs.Ytgbndakiiblhmaa.Pure

/- The join is the least interval that has all of both; the meet is in both: the walk's pure function answers true for all inputs. -/
import Derived.Test.YtkailfmehmgolaaDoorRx24
import Derived.Test.YtkailfmehmgolaaDoorItvLaw
namespace Go.Proofs.YtkailfmehmgolaaDoor.ItvEv
open Go.RowKit Go.Proofs.YtkailfmehmgolaaDoor.R Go.Proofs.YtkailfmehmgolaaDoorW.PrintWords Go.Proofs.YtkailfmehmgolaaDoorW.PrintLast
theorem pure_ItvLeast : warrantorlaw07_ItvLeast.Pure := by
  intro a b c d e f _ _ _ _ _ _
  refine ⟨58 + 1 + 1, ?_⟩
  have hp := wf_pl a b
  have hq := wf_pl c d
  have hr := wf_pl e f
  unfold warrantorlaw07_ItvLeast_v0.f warrantorlaw07_ItvLeast_v1.f
  simp only [livesL_f, leq_f, join_f, meet_f, same_f, Option.bind_some, if_pos, pl_self (wf_join hp hq), pl_self (wf_meet _ _), leq_join hp hq hr, leq_meet hp hq hr, leq_anti hp hq]
  cases leq (pl a b) (pl e f) <;> cases leq (pl c d) (pl e f) <;> cases leq (pl e f) (pl a b) <;> cases leq (pl e f) (pl c d) <;> cases leq (pl a b) (pl c d) <;> cases leq (pl c d) (pl a b) <;> decide
end Go.Proofs.YtkailfmehmgolaaDoor.ItvEv
namespace Go.Proofs.YtkailfmehmgolaaDoor.Pure
open Go.RowKit Go.Proofs.YtkailfmehmgolaaDoor.R Go.Proofs.YtkailfmehmgolaaDoorW.PrintWords Go.Proofs.YtkailfmehmgolaaDoorW.PrintLast
theorem ItvLeast : warrantorlaw07_ItvLeast.Pure := ItvEv.pure_ItvLeast
end Go.Proofs.YtkailfmehmgolaaDoor.Pure

/- Whatever is told of any two intervals: the walk's pure function answers true for all inputs. -/
import Derived.Test.YtkailfmehmgolaaDoorRx20
import Derived.Test.YtkailfmehmgolaaDoorItvRef
namespace Go.Proofs.YtkailfmehmgolaaDoor.ItvEv
open Go.RowKit Go.Proofs.YtkailfmehmgolaaDoor.R Go.Proofs.YtkailfmehmgolaaDoorW.PrintWords Go.Proofs.YtkailfmehmgolaaDoorW.PrintLast
theorem lives_f : warrantorlaw07_lives.f (58 + 1 + 1) = some true := by decide +kernel
theorem wfr {c : Int} (h : (Lit.int .i64 c).wf = true) : -9223372036854775808 ≤ c ∧ c ≤ 9223372036854775807 := by
  simpa [Lit.wf, IntKind.min, IntKind.max, IntKind.signed, IntKind.bits] using h
theorem neqv (a : Int) : (!(a == a)) = false := by simp
theorem pure_ItvTells : warrantorlaw07_ItvTells.Pure := by
  intro a b c d v _ _ _ _ hv
  obtain ⟨v1, v2⟩ := wfr hv
  refine ⟨58 + 1 + 1, ?_⟩
  unfold warrantorlaw07_ItvTells.f
  simp only [lives_f, of_f, is_f, size_f, has_f, leq_f, same_f, join_f, meet_f, plus_f, neg_f, widen_f, refPlain_f, refSize_f, refHas_f, refLeq_f, refJoin_f, refMeet_f, refPlus_f, refNeg_f, refWiden_f, move_f _ a b v v1 v2, refMove_f _ a b v v1 v2, Option.bind_some, if_pos, eqp, bne_self_eq_false, beq_self_eq_true, Bool.not_true, Bool.or_self, if_neg Bool.false_ne_true, Bool.and_self]
end Go.Proofs.YtkailfmehmgolaaDoor.ItvEv
namespace Go.Proofs.YtkailfmehmgolaaDoor.Pure
open Go.RowKit Go.Proofs.YtkailfmehmgolaaDoor.R Go.Proofs.YtkailfmehmgolaaDoorW.PrintWords Go.Proofs.YtkailfmehmgolaaDoorW.PrintLast
theorem ItvTells : warrantorlaw07_ItvTells.Pure := ItvEv.pure_ItvTells
end Go.Proofs.YtkailfmehmgolaaDoor.Pure

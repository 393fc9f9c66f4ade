/- Any number clipped, sums of any two, the other sign: the walk's pure function answers true for all inputs. -/
import Derived.Test.YtgbndakiiblhmaaDoorValEv
namespace Go.Proofs.YtgbndakiiblhmaaDoor.ValEv
open Go.RowKit Go.Proofs.YtgbndakiiblhmaaDoor.Q Go.Proofs.YtgbndakiiblhmaaDoorW.PrintWords Go.Proofs.YtgbndakiiblhmaaDoorW.PrintLast
theorem pure_ValClips : warrantorlaw06_ValClips.Pure := by
  intro a b _ _
  refine ⟨1, ?_⟩
  have ha := clp_range a
  have hb := clp_range b
  unfold warrantorlaw06_ValClips.f
  simp only [refClip_f, add_f, lives_f, clip_f, is_f, refIs_f, sum_f, neg_f, Option.bind_some, if_pos, bne_self_eq_false, if_neg Bool.false_ne_true, sum_small, neg_small, clp_clp]
  have e : ((add a b).2 != isv (clp a + clp b)) = false := by
    unfold add
    cases isv (clp a + clp b) <;> rfl
  simp only [e, if_neg Bool.false_ne_true]
  unfold warrantorlaw06_ValClips.j0
  simp only [if_neg Bool.false_ne_true, sum_small, clip_f, Option.bind_some]
  have hm : ¬ a > b → clp a ≤ clp b := fun h => by unfold clp; omega
  unfold add
  by_cases h : isv (clp a + clp b) = true
  · simp only [if_pos h, if_pos]
    by_cases h2 : a > b
    · rw [if_pos h2]
    · rw [if_neg h2, decide_eq_true (hm h2)]
  · simp only [if_neg h, if_neg Bool.false_ne_true, if_pos]
    by_cases h2 : a > b
    · rw [if_pos h2]
    · rw [if_neg h2, decide_eq_true (hm h2)]
end Go.Proofs.YtgbndakiiblhmaaDoor.ValEv
namespace Go.Proofs.YtgbndakiiblhmaaDoor.Pure
open Go.RowKit Go.Proofs.YtgbndakiiblhmaaDoor.Q Go.Proofs.YtgbndakiiblhmaaDoorW.PrintWords Go.Proofs.YtgbndakiiblhmaaDoorW.PrintLast
theorem ValClips : warrantorlaw06_ValClips.Pure := ValEv.pure_ValClips
end Go.Proofs.YtgbndakiiblhmaaDoor.Pure

/- What a sum was ahead of any bytes is told, and is one only: the walk's pure function answers true for all inputs. -/
import Derived.Test.YtgbndakiiblhmaaFnvEv
namespace Go.Proofs.Ytgbndakiiblhmaa.FnvEv
open Go.RowKit Go.Proofs.Ytgbndakiiblhmaa.N Go.Proofs.YtgbndakiiblhmaaW.PrintWords Go.Proofs.YtgbndakiiblhmaaW.PrintLast
theorem pure_FnvLess : warrantorlaw19_FnvLess.Pure := by
  intro a b l ha hb _ h1 _
  have hU := U_wf ha
  have hV := U_wf hb
  have n1 : l.length ≤ 4611686018427387904 := by omega
  apply Ev.get
  unfold warrantorlaw19_FnvLess.f
  by_cases c1 : (l.length : Int) > 3000
  · simp only [if_pos c1, Option.bind_fun_some]; exact ev_lives
  · simp only [if_neg c1]
    have n2 : l.length ≤ 1000000 := by omega
    refine Ev.bind (ev_Less hU n2) ?_
    refine Ev.bind ev_lives ?_
    simp only [if_pos]
    refine Ev.bind (ev_refMore (U_toNat _) n1) ?_
    simp only [bv_toNat, more_less, U_bv hU, if_pos]
    refine Ev.bind (ev_refMore hU n1) ?_
    refine Ev.bind (ev_Less (U_toNat _) n2) ?_
    simp only [bv_toNat, less_more, U_bv hU, if_pos]
    refine Ev.bind (ev_More hU n1) ?_
    refine Ev.bind (ev_More hV n1) ?_
    refine Ev.const ?_
    have e : (a == b) = (((moreB (bv a) l).toNat : Int) == ((moreB (bv b) l).toNat : Int)) := by
      apply Bool.eq_iff_iff.2
      rw [beq_iff_eq, beq_iff_eq]
      constructor
      · intro h; rw [h]
      · intro h
        exact bv_inj hU hV (more_inj (l := l) (BitVec.eq_of_toNat_eq (by omega)))
    rw [e, beq_self_eq_true]
end Go.Proofs.Ytgbndakiiblhmaa.FnvEv
namespace Go.Proofs.Ytgbndakiiblhmaa.Pure
open Go.RowKit Go.Proofs.Ytgbndakiiblhmaa.N Go.Proofs.YtgbndakiiblhmaaW.PrintWords Go.Proofs.YtgbndakiiblhmaaW.PrintLast
theorem FnvLess : warrantorlaw19_FnvLess.Pure := FnvEv.pure_FnvLess
end Go.Proofs.Ytgbndakiiblhmaa.Pure

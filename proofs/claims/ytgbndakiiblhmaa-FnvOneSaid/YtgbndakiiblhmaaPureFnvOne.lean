/- Bytes that are unlike in one place only have unlike sums: the walk's pure function answers true for all inputs. -/
import Derived.Test.YtgbndakiiblhmaaNx7
import Derived.Test.YtgbndakiiblhmaaFnvEv
namespace Go.Proofs.Ytgbndakiiblhmaa.FnvEv
open Go.RowKit Go.Proofs.Ytgbndakiiblhmaa.N Go.Proofs.YtgbndakiiblhmaaW.PrintWords Go.Proofs.YtgbndakiiblhmaaW.PrintLast
theorem U_u8 {a : Int} (h : (Lit.int .u8 a).wf = true) : U a := by
  simp only [Lit.wf, Bool.and_eq_true, decide_eq_true_eq] at h
  exact ⟨h.1, by have := h.2; simp [IntKind.max, IntKind.signed, IntKind.bits] at this; omega⟩
theorem pure_FnvOne : warrantorlaw19_FnvOne.Pure := by
  intro l at0 x _ h1 hw _ hx
  have n1 : l.length ≤ 4611686018427387904 := by omega
  apply Ev.get
  unfold warrantorlaw19_FnvOne.f
  have hlives : Ev (fun k => warrantorlaw19_FnvOne.j0 k l at0 x true) true := by
    refine Ev.succ (fun k => by rw [warrantorlaw19_FnvOne.j0]) ?_
    simp only [if_pos, Option.bind_fun_some]
    exact ev_lives
  by_cases c1 : (l.length : Int) > 3000
  · simp only [if_pos c1]; exact hlives
  · simp only [if_neg c1]
    by_cases c2 : at0 < 0
    · simp only [if_pos c2]; exact hlives
    · simp only [if_neg c2]
      by_cases c3 : at0 ≥ (l.length : Int)
      · simp only [c3, decide_true]; exact hlives
      · simp only [c3, decide_false]
        obtain ⟨i, rfl⟩ := Int.eq_ofNat_of_zero_le (show 0 ≤ at0 by omega)
        have hi : i < l.length := by omega
        refine Ev.succ (fun k => by rw [warrantorlaw19_FnvOne.j0]) ?_
        simp only [if_neg Bool.false_ne_true, Option.bind_some, List.length_nil, List.nil_append, if_pos (show 0 + l.length < 140737488355328 by omega), if_pos (show (0 : Int) ≤ (i : Int) by omega), if_pos (show (i : Int) < (l.length : Int) by omega), Int.toNat_natCast]
        refine Ev.bind ev_lives ?_
        simp only [if_pos]
        refine Ev.bind (ev_Sum n1) ?_
        refine Ev.bind (ev_Sum (by rw [List.length_set]; exact n1)) ?_
        refine Ev.const ?_
        rw [rd_get hi]
        have s1 : l = l.take i ++ l[i] :: l.drop (i + 1) := by
          have := (List.take_append_drop i l).symm
          rwa [List.drop_eq_getElem_cons hi] at this
        have s2 : l.set i x = l.take i ++ x :: l.drop (i + 1) := List.set_eq_take_append_cons_drop .. |>.trans (by rw [if_pos hi])
        have e : (((moreB (bv beg) l).toNat : Int) == ((moreB (bv beg) (l.set i x)).toNat : Int)) = (l[i] == x) := by
          apply Bool.eq_iff_iff.2
          rw [beq_iff_eq, beq_iff_eq]
          constructor
          · intro h
            have h2 : moreB (bv beg) l = moreB (bv beg) (l.set i x) := BitVec.eq_of_toNat_eq (by omega)
            rw [s2] at h2
            have h3 : moreB (bv beg) (l.take i ++ l[i] :: l.drop (i + 1)) = moreB (bv beg) (l.take i ++ x :: l.drop (i + 1)) := by rw [← s1]; exact h2
            rw [more_append, more_append] at h3
            exact bv_inj (U_u8 (hw _ (List.getElem_mem hi))) (U_u8 hx) (step_inj (more_inj (l := l.drop (i + 1)) h3))
          · intro h
            have : l.set i x = l := by rw [s2, ← h, ← s1]
            rw [this]
        rw [e, beq_self_eq_true]
end Go.Proofs.Ytgbndakiiblhmaa.FnvEv
namespace Go.Proofs.Ytgbndakiiblhmaa.Pure
open Go.RowKit Go.Proofs.Ytgbndakiiblhmaa.N Go.Proofs.YtgbndakiiblhmaaW.PrintWords Go.Proofs.YtgbndakiiblhmaaW.PrintLast
theorem FnvOne : warrantorlaw19_FnvOne.Pure := FnvEv.pure_FnvOne
end Go.Proofs.Ytgbndakiiblhmaa.Pure

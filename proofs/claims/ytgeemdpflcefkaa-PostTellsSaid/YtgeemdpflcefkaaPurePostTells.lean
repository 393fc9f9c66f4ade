import Derived.Test.YtgeemdpflcefkaaYx3
import Derived.Test.YtgeemdpflcefkaaYx29
import Derived.Test.YtgeemdpflcefkaaYx37
import Derived.Test.YtgeemdpflcefkaaPostEv
set_option linter.unusedVariables false
set_option linter.unusedSimpArgs false
/- PostTells: what is behind any statement of any zone, and at fault, is what the reference tells. -/
namespace Go.Proofs.Ytgeemdpflcefkaa.DbmEv
open Go.RowKit Go.Proofs.Ytgeemdpflcefkaa.Y Go.Proofs.YtgeemdpflcefkaaW.PrintWords Go.Proofs.YtgeemdpflcefkaaW.PrintLast Go.Proofs.Ytgeemdpflcefkaa.DbmMath
theorem tells_one {n : Nat} {xs : List Int} (hz : isZone (n : Int) xs = true) {k c d : Int} {x y : Nat} (hr : right k (x : Int) (y : Int) c d (n : Int)) :
    Ev (fun q => warrantorlaw14_PostTells.j1 q (mustZ n xs k x y c) (n : Int) xs k (x : Int) (y : Int) c d (n : Int) (postZ n xs k x y c d) (n : Int) (faultZ n xs k x y c) (n : Int) (faultZ n xs k x y c)) true := by
  have hp := zone_fit (postZ_zone hz k x y c d)
  have hf := zone_fit (faultZ_zone hz k x y c)
  refine Ev.succ (fun k => by rw [warrantorlaw14_PostTells.j1]) ?_
  refine Ev.bind (ev_rPost hz hr) ?_
  refine Ev.bind (sameSelf _ (fit_le hp.1 hp.2)) ?_
  simp only [if_pos]
  refine Ev.bind (sameSelf _ (fit_le hf.1 hf.2)) ?_
  simp only [if_pos]
  refine Ev.bind (ev_May hz hr) ?_
  simp only [BEq.rfl, if_pos]
  refine Ev.bind (ev_Must hz hr) ?_
  exact Ev.const (by simp)
theorem pure_PostTells : warrantorlaw14_PostTells.Pure := by
  intro a xs k x y c d _ _ _ _ _ _ _ _ _
  apply Ev.get
  unfold warrantorlaw14_PostTells.f warrantorref08_Large.f
  simp only [Option.bind_some]
  by_cases g1 : (xs.length : Int) > 200
  · simp only [g1, decide_true, if_pos, Option.bind_fun_some]; exact ev_lives14
  · simp only [g1, decide_false, if_neg Bool.false_ne_true]
    refine Ev.bind (ev_rcheck _ _ _ _ _ _ _ (by omega)) ?_
    by_cases hc : chk a xs k x y c d = 0
    · obtain ⟨hz, hr⟩ := chk_zero hc
      obtain ⟨n, rfl, hn⟩ : ∃ n : Nat, a = n ∧ n ≤ 8 := by
        obtain ⟨n, h1, h2, _⟩ := zone_cases hz
        exact ⟨n, h1, h2⟩
      obtain ⟨p, q, rfl, rfl⟩ := right_nat hr
      have hf := zone_fit (faultZ_zone hz k p q c)
      refine Ev.bind (ev_Post hz hr) ?_
      refine Ev.bind (ev_Fault hz hr) ?_
      refine Ev.bind ev_lives14 ?_
      simp only [hc, if_pos, bne_self_eq_false]
      refine Ev.succ (fun k => by rw [warrantorlaw14_PostTells.j0]) ?_
      simp only [if_neg Bool.false_ne_true, if_pos]
      refine Ev.bind (ev_rFault hz hr) ?_
      have one := tells_one hz hr
      unfold mustZ at one
      by_cases h : ((faultZ n xs k p q c).length : Int) > 0
      · simp only [if_pos h]
        rw [decide_eq_true h, Bool.true_and] at one
        refine Ev.bind (ev_refSame _ _ _ _ (by have := fit_le hf.1 hf.2; omega)) ?_
        simp only [true_and]
        exact one
      · simp only [if_neg h]
        rw [decide_eq_false h, Bool.false_and] at one
        exact one
    · refine Ev.bind (ev_PostE hc) ?_
      refine Ev.bind (ev_FaultE hc) ?_
      refine Ev.bind ev_lives14 ?_
      simp only [if_pos, bne_self_eq_false]
      refine Ev.succ (fun k => by rw [warrantorlaw14_PostTells.j0]) ?_
      simp only [if_neg Bool.false_ne_true, if_neg hc]
      refine Ev.bind (sameSelf 0 (zs := []) (by simp)) ?_
      simp only [if_pos]
      refine Ev.bind (sameSelf 0 (zs := []) (by simp)) ?_
      simp only [if_pos]
      have my : Ev (fun q => post_May.f q a xs k x y c d) false := by
        unfold post_May.f
        refine Ev.bind (ev_FaultE hc) ?_
        simp only [if_neg hc]
        exact Ev.const rfl
      have ms : Ev (fun q => post_Must.f q a xs k x y c d) false := by
        unfold post_Must.f
        refine Ev.bind (ev_FaultE hc) ?_
        simp only [if_neg hc]
        exact Ev.const rfl
      refine Ev.bind my ?_
      simp only [if_neg Bool.false_ne_true]
      exact Ev.bind ms (Ev.const rfl)
end Go.Proofs.Ytgeemdpflcefkaa.DbmEv
namespace Go.Proofs.Ytgeemdpflcefkaa.Pure
open Go.RowKit Go.Proofs.Ytgeemdpflcefkaa.Y Go.Proofs.YtgeemdpflcefkaaW.PrintWords Go.Proofs.YtgeemdpflcefkaaW.PrintLast
theorem PostTells : warrantorlaw14_PostTells.Pure := DbmEv.pure_PostTells
end Go.Proofs.Ytgeemdpflcefkaa.Pure

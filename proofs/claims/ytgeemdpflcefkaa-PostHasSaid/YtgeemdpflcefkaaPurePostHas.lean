import Derived.Test.YtgeemdpflcefkaaYx3
import Derived.Test.YtgeemdpflcefkaaYx43
import Derived.Test.YtgeemdpflcefkaaPostDoes
set_option linter.unusedVariables false
set_option linter.unusedSimpArgs false
/- PostHas: the valuations to which a statement goes on are behind it; those at which it is a fault are at fault. -/
namespace Go.Proofs.Ytgeemdpflcefkaa.DbmEv
open Go.RowKit Go.Proofs.Ytgeemdpflcefkaa.Y Go.Proofs.YtgeemdpflcefkaaW.PrintWords Go.Proofs.YtgeemdpflcefkaaW.PrintLast Go.Proofs.Ytgeemdpflcefkaa.DbmMath
theorem phas_law {n : Nat} {xs v : List Int} (hz : isZone (n : Int) xs = true) (hv : v.length = n) (hp : hasP n xs v) {k c d : Int} {x y : Nat} (hr : right k (x : Int) (y : Int) c d (n : Int)) (ch : Int) :
    Ev (fun q => warrantorlaw14_PostHas.j0 q v ch false (n : Int) xs k (x : Int) (y : Int) c d) true := by
  obtain ⟨hn, hx⟩ := zone_fit hz
  have zp := postZ_zone hz k x y c d
  have zf := faultZ_zone hz k x y c
  refine Ev.succ (fun k => by rw [warrantorlaw14_PostHas.j0]) ?_
  simp only [if_neg Bool.false_ne_true, if_pos (show (v.length : Int) = (n : Int) by omega)]
  refine Ev.bind (ev_Post hz hr) ?_
  refine Ev.bind (ev_Fault hz hr) ?_
  simp only [does_f hn hr hv hp.2.1, Option.bind_some]
  refine Ev.bind ev_lives14 ?_
  simp only [if_pos]
  refine Ev.bind (ev_hasZ zf hv) ?_
  have e1 : hasZ n (faultZ n xs k x y c) v = ((doesV k x y c d v ch).2 == 131) := by
    apply Bool.eq_iff_iff.2
    rw [hasZ_iff zf, hasP_fault hz hp hr ch, beq_iff_eq]
  simp only [e1, bne_self_eq_false]
  refine Ev.succ (fun k => by rw [warrantorlaw14_PostHas.j1]) ?_
  simp only [if_neg Bool.false_ne_true]
  have yes : k = 4 ∨ k = 5 → Ev (fun q => warrantorlaw14_PostHas.j2 q v (doesV k x y c d v ch).1 (doesV k x y c d v ch).2 true (n : Int) (postZ n xs k x y c d)) true := by
    intro hk
    refine Ev.succ (fun k => by rw [warrantorlaw14_PostHas.j2]) ?_
    simp only [if_pos]
    refine Ev.bind (ev_hasZ zp hv) ?_
    refine Ev.const ?_
    have e2 : hasZ n (postZ n xs k x y c d) v = ((doesV k x y c d v ch).2 == 0) := by
      apply Bool.eq_iff_iff.2
      rw [hasZ_iff zp, hasP_post45 hz hp hr hk ch, beq_iff_eq]
    rw [e2]; simp
  by_cases k4 : k = 4
  · simp only [if_pos k4]; exact yes (.inl k4)
  · simp only [if_neg k4]
    by_cases k5 : k = 5
    · rw [show (k == 5) = true by rw [beq_iff_eq]; exact k5]; exact yes (.inr k5)
    · rw [show (k == 5) = false by rw [beq_eq_false_iff_ne]; exact k5]
      refine Ev.succ (fun k => by rw [warrantorlaw14_PostHas.j2]) ?_
      simp only [if_neg Bool.false_ne_true]
      by_cases he : (doesV k x y c d v ch).2 = 0
      · simp only [if_pos he]
        refine Ev.bind (ev_hasZ zp (does_len hv he)) ?_
        refine Ev.const ?_
        rw [(hasZ_iff zp).2 (hasP_post hz hv hp hr (by omega) he)]
      · simp only [if_neg he]; exact Ev.const rfl
theorem pure_PostHas : warrantorlaw14_PostHas.Pure := by
  intro a xs k x y c d v ch _ _ _ _ _ _ _ _ _ _ _ _ _
  apply Ev.get
  unfold warrantorlaw14_PostHas.f warrantorref08_Large.f
  simp only [Option.bind_some]
  have big : Ev (fun q => warrantorlaw14_PostHas.j0 q v ch true a xs k x y c d) true := by
    refine Ev.succ (fun k => by rw [warrantorlaw14_PostHas.j0]) ?_
    simp only [if_pos, Option.bind_fun_some]
    exact ev_lives14
  by_cases g1 : (xs.length : Int) > 200
  · simp only [g1, decide_true, if_pos]; exact big
  · simp only [g1, decide_false, if_neg Bool.false_ne_true]
    by_cases g2 : (v.length : Int) > 20
    · simp only [if_pos g2]; exact big
    · simp only [if_neg g2]
      refine Ev.bind (ev_rcheck _ _ _ _ _ _ _ (by omega)) ?_
      by_cases hc : chk a xs k x y c d = 0
      · obtain ⟨hz, hr⟩ := chk_zero hc
        obtain ⟨n, rfl, hn⟩ : ∃ n : Nat, a = n ∧ n ≤ 8 := by
          obtain ⟨n, h1, h2, _⟩ := zone_cases hz
          exact ⟨n, h1, h2⟩
        obtain ⟨p, q, rfl, rfl⟩ := right_nat hr
        simp only [if_pos hc]
        by_cases hv : v.length = n
        · refine Ev.bind (ev_hasZ hz hv) ?_
          cases hh : hasZ n xs v with
          | true => exact phas_law hz hv ((hasZ_iff hz).1 hh) hr ch
          | false => exact big
        · refine Ev.bind (ev_hasZ_len hz hv) ?_
          exact big
      · simp only [if_neg hc]; exact big
end Go.Proofs.Ytgeemdpflcefkaa.DbmEv
namespace Go.Proofs.Ytgeemdpflcefkaa.Pure
open Go.RowKit Go.Proofs.Ytgeemdpflcefkaa.Y Go.Proofs.YtgeemdpflcefkaaW.PrintWords Go.Proofs.YtgeemdpflcefkaaW.PrintLast
theorem PostHas : warrantorlaw14_PostHas.Pure := DbmEv.pure_PostHas
end Go.Proofs.Ytgeemdpflcefkaa.Pure

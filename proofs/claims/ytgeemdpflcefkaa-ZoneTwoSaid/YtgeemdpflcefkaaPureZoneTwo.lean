/- ZoneTwo: what is told of any two zones by the program is what the reference tells. -/
import Derived.Test.YtgeemdpflcefkaaZx3
import Derived.Test.YtgeemdpflcefkaaZx25
import Derived.Test.YtgeemdpflcefkaaZx38
import Derived.Test.YtgeemdpflcefkaaZoneEv
import Derived.Test.YtgeemdpflcefkaaZoneLives
set_option linter.unusedVariables false
set_option linter.unusedSimpArgs false
namespace Go.Proofs.Ytgeemdpflcefkaa.DbmEv
open Go.RowKit Go.Proofs.Ytgeemdpflcefkaa.Z Go.Proofs.YtgeemdpflcefkaaW.PrintWords Go.Proofs.YtgeemdpflcefkaaW.PrintLast Go.Proofs.Ytgeemdpflcefkaa.DbmMath
theorem pure_ZoneTwo : warrantorlaw09_ZoneTwo.Pure := by
  intro a xs b ys _ _ _ _ _ _ _ _
  apply Ev.get
  unfold warrantorlaw09_ZoneTwo.f warrantorref08_Large.f
  simp only [Option.bind_some]
  have big : Ev (fun k => warrantorlaw09_ZoneTwo.j0 k true a xs b ys) true := by
    refine Ev.succ (fun k => by rw [warrantorlaw09_ZoneTwo.j0]) ?_
    simp only [if_pos, Option.bind_fun_some]
    exact ev_lives09
  by_cases h1 : (xs.length : Int) > 200
  · simp only [h1, decide_true, if_pos]; exact big
  · simp only [h1, decide_false, if_neg Bool.false_ne_true]
    by_cases h2 : (ys.length : Int) > 200
    · simp only [h2, decide_true]; exact big
    · simp only [h2, decide_false]
      refine Ev.succ (fun k => by rw [warrantorlaw09_ZoneTwo.j0]) ?_
      simp only [if_neg Bool.false_ne_true]
      refine Ev.bind (ev_refTwo a xs b ys (by omega) (by omega)) ?_
      by_cases ht : two a xs b ys = 0
      · obtain ⟨rfl, hzx, hzy⟩ := two_cases ht
        obtain ⟨n, rfl, hn⟩ := zone_nat hzx
        obtain ⟨r, hl1, hl2, _⟩ := ev_leq hzx hzy
        have hlen : ∀ F : Int → Int → Int, (closeT n (zp F xs ys ((n + 1) * (n + 1)))).length ≤ 200 := fun F => by
          have := closeT_le hn (zs := zp F xs ys ((n + 1) * (n + 1))) (zp_len _ _ _ _)
          omega
        refine Ev.bind hl1 ?_
        refine Ev.bind (ev_Meet hzx hzy) ?_
        refine Ev.bind (ev_Join hzx hzy) ?_
        refine Ev.bind (ev_Widen hzx hzy) ?_
        refine Ev.bind ev_lives09 ?_
        simp only [ht, if_pos]
        refine Ev.bind hl2 ?_
        simp only [BEq.rfl, if_pos]
        refine Ev.bind (ev_refMeet hzx hzy) ?_
        refine Ev.bind (sameSelf _ (by split; · simp
                                       · exact hlen _)) ?_
        simp only [if_pos]
        refine Ev.bind (ev_refJoin hzx hzy) ?_
        refine Ev.bind (sameSelf _ (by split; · split <;> omega
                                       · exact hlen _)) ?_
        simp only [if_pos]
        refine Ev.bind (ev_refWiden hzx hzy) ?_
        refine Ev.bind (sameSelf _ (by split; · split <;> omega
                                       · exact hlen _)) ?_
        exact Ev.const rfl
      · have hl : Ev (fun k => zone_Leq.f k a xs b ys) (false, two a xs b ys) := by
          unfold zone_Leq.f
          refine Ev.bind (ev_two _ _ _ _) ?_
          simp only [if_neg ht]
          exact Ev.const rfl
        refine Ev.bind hl ?_
        refine Ev.bind (ev_no_Meet ht) ?_
        refine Ev.bind (ev_no_Join ht) ?_
        refine Ev.bind (ev_no_Widen ht) ?_
        refine Ev.bind ev_lives09 ?_
        simp only [if_pos, if_neg ht, if_neg Bool.false_ne_true]
        refine Ev.bind (sameSelf 0 (zs := []) (by simp)) ?_
        simp only [if_pos]
        refine Ev.bind (sameSelf 0 (zs := []) (by simp)) ?_
        simp only [if_pos]
        refine Ev.bind (sameSelf 0 (zs := []) (by simp)) ?_
        exact Ev.const rfl
end Go.Proofs.Ytgeemdpflcefkaa.DbmEv
namespace Go.Proofs.Ytgeemdpflcefkaa.Pure
open Go.RowKit Go.Proofs.Ytgeemdpflcefkaa.Z Go.Proofs.YtgeemdpflcefkaaW.PrintWords Go.Proofs.YtgeemdpflcefkaaW.PrintLast
theorem ZoneTwo : warrantorlaw09_ZoneTwo.Pure := DbmEv.pure_ZoneTwo
end Go.Proofs.Ytgeemdpflcefkaa.Pure

/- Sums do not hang on the order, rise, and undo one another as long as no end is met: the walk's pure function answers true for all inputs. -/
import Derived.Test.YtgbndakiiblhmaaDoorQx8
import Derived.Test.YtgbndakiiblhmaaDoorValEv
namespace Go.Proofs.YtgbndakiiblhmaaDoor.ValEv
open Go.RowKit Go.Proofs.YtgbndakiiblhmaaDoor.Q Go.Proofs.YtgbndakiiblhmaaDoorW.PrintWords Go.Proofs.YtgbndakiiblhmaaDoorW.PrintLast
theorem pure_ValSums : warrantorlaw06_ValSums.Pure := by
  intro a b c _ _ _
  have hb := clp_range b
  have ha := clp_range a
  have hcomm : clp (clp a + clp b) = clp (clp b + clp a) := by rw [Int.add_comm]
  have hmono : ¬ a > c → clp (clp a + clp b) ≤ clp (clp c + clp b) := fun h => by unfold clp; omega
  have hneg : -clp (-clp a) = clp a := by unfold clp; omega
  have hback : (add a b).2 = true → add (add a b).1 (-clp b) = (clp a, true) := by
    intro h
    have h1 : isv (clp a + clp b) = true := by
      unfold add at h
      cases hi : isv (clp a + clp b) with
      | true => rfl
      | false => rw [hi] at h; cases h
    have e1 : (add a b).1 = clp a + clp b := by unfold add; rw [if_pos h1]
    rw [e1]
    have h2 := of_decide_eq_true h1
    have e2 : clp (clp a + clp b) = clp a + clp b := by
      have : clp (clp a + clp b) = min (max (clp a + clp b) (-1099511627776)) 1099511627776 := rfl
      omega
    have e3 : clp (-clp b) = -clp b := by
      have : clp (-clp b) = min (max (-clp b) (-1099511627776)) 1099511627776 := rfl
      omega
    unfold add
    rw [e2, e3, show clp a + clp b + -clp b = clp a by omega, if_pos (show isv (clp a) = true from decide_eq_true ha)]
  unfold warrantorlaw06_ValSums.f
  simp only [add_f, neg_f, sum_f, clip_f, lives_f, Option.bind_some, if_pos, hcomm, hneg, beq_self_eq_true]
  have hm2 : ¬ a > c → clp (clp b + clp a) ≤ clp (clp c + clp b) := fun h => by rw [← hcomm]; exact hmono h
  by_cases h1 : a > c
  · simp only [if_pos h1]
    cases h2 : (add a b).2 with
    | true => simp only [hback h2, if_pos]
    | false => simp only [if_neg Bool.false_ne_true]
  · simp only [if_neg h1, if_pos (hm2 h1)]
    cases h2 : (add a b).2 with
    | true => simp only [hback h2, if_pos]
    | false => simp only [if_neg Bool.false_ne_true]
end Go.Proofs.YtgbndakiiblhmaaDoor.ValEv
namespace Go.Proofs.YtgbndakiiblhmaaDoor.Pure
open Go.RowKit Go.Proofs.YtgbndakiiblhmaaDoor.Q Go.Proofs.YtgbndakiiblhmaaDoorW.PrintWords Go.Proofs.YtgbndakiiblhmaaDoorW.PrintLast
theorem ValSums : warrantorlaw06_ValSums.Pure := ValEv.pure_ValSums
end Go.Proofs.YtgbndakiiblhmaaDoor.Pure

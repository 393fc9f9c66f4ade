/- chapter 08 in this seat: what a zone has, and the zone of all -/
import Derived.Test.YtgeemdpflcefkaaZx3
import Derived.Test.YtgeemdpflcefkaaZx4
import Derived.Test.YtgeemdpflcefkaaZx5
import Derived.Test.YtgeemdpflcefkaaZx7
import Derived.Test.YtgeemdpflcefkaaZx30
import Derived.Test.YtgeemdpflcefkaaZx31
import Derived.Test.YtgeemdpflcefkaaZx44
import Derived.Test.YtgeemdpflcefkaaZoneHad
set_option linter.unusedVariables false
set_option linter.unusedSimpArgs false
namespace Go.Proofs.Ytgeemdpflcefkaa.DbmEv
open Go.RowKit Go.Proofs.Ytgeemdpflcefkaa.Z Go.Proofs.YtgeemdpflcefkaaW.PrintWords Go.Proofs.YtgeemdpflcefkaaW.PrintLast Go.Proofs.Ytgeemdpflcefkaa.DbmMath
theorem ev_Empty (a : Int) (xs : List Int) : Ev (fun k => dbm_Empty.f k a xs) (isZone a xs && decide (xs = [])) := by
  unfold dbm_Empty.f
  refine Ev.bind (ev_Check a xs) ?_
  cases hz : isZone a xs with
  | false => simp only [if_neg Bool.false_ne_true, if_neg (show ¬ (80 : Int) = 0 by decide)]; exact Ev.const (by simp)
  | true =>
    simp only [if_pos]
    refine Ev.const ?_
    cases xs with
    | nil => rfl
    | cons x t =>
      simp only [Bool.true_and, List.length_cons, reduceCtorEq, decide_false, Option.some.injEq, beq_eq_false_iff_ne]
      omega
theorem ev_refAll {n : Nat} (hn : n ≤ 8) : Ev (fun k => warrantorref08_All.f k (n : Int)) ((n : Int), eachTo (fun _ => mostF) n (List.replicate ((n + 1) * (n + 1)) 0) ((n + 1) * (n + 1))) := by
  unfold warrantorref08_All.f
  have hs := size_le hn
  have e := size_eq (a := (n : Int)) (by unfold vars; rw [decide_eq_true_eq]; omega)
  rw [Int.toNat_natCast] at e
  have h0 : ([] : List Int) = List.replicate 0 4398046511104 := rfl
  rw [h0]
  refine Ev.up0 (l := fun k t => warrantorref08_All.l0 k (n : Int) (List.replicate t 4398046511104) (t : Int)) (N := (n + 1) * (n + 1)) ?_ ?_
  · refine Ev.succ (fun k => by rw [warrantorref08_All.l0]) ?_
    simp only [e, if_neg (Int.lt_irrefl _)]
    have hl : (List.replicate ((n + 1) * (n + 1)) (4398046511104 : Int)).length = (n + 1) * (n + 1) := List.length_replicate
    refine Ev.bind (ev_refClose hn hl) ?_
    have hcut : ∀ i j, i ≤ n → j ≤ n → cut n (List.replicate ((n + 1) * (n + 1)) (4398046511104 : Int)) i j = far i j := by
      intro i j hi hj
      have hp := place_lt hi hj
      have h1 := far_le i j
      have h2 : at_ n (List.replicate ((n + 1) * (n + 1)) (4398046511104 : Int)) i j = 4398046511104 := by
        unfold at_
        rw [rd_nat, List.getD_eq_getElem?_getD, List.getElem?_replicate, if_pos hp]; rfl
      unfold cut clip
      rw [h2]; unfold B; omega
    have hC : IsClosure n (cut n (List.replicate ((n + 1) * (n + 1)) (4398046511104 : Int))) far := by
      refine ⟨⟨fun i j k _ _ _ => far_tri i j k, fun i _ => (far_le i i).1⟩, fun i j hi hj => by rw [hcut i j hi hj]; exact Int.le_refl _, fun X _ hu i j hi hj => by have := hu i j hi hj; rwa [hcut i j hi hj] at this⟩
    have hE : closeTo n (List.replicate ((n + 1) * (n + 1)) (4398046511104 : Int)) (n + 1) = eachTo (fun _ => mostF) n (List.replicate ((n + 1) * (n + 1)) 0) ((n + 1) * (n + 1)) ∧ closeOk n (List.replicate ((n + 1) * (n + 1)) (4398046511104 : Int)) = true := by
      rcases prog_close hl with ⟨a, hD⟩ | ⟨_, hD⟩
      · refine ⟨list_eq (by rw [closeTo_length]; exact hl) (by rw [eachTo_length, List.length_replicate]) (fun i j hi hj => ?_), a⟩
        rw [hD.unique hC i j hi hj]
        exact (eachTo_all (G := far) List.length_replicate (fun ys i j _ _ _ _ => mostF_eq i j) hi hj).symm
      · exact absurd hD hC.not_dead
    simp only [if_pos hE.2, hE.1]
    exact Ev.const rfl
  · intro t ht h
    refine Ev.succ (fun k => by rw [warrantorref08_All.l0]) ?_
    simp only [e, if_pos (show (t : Int) < (((n + 1) * (n + 1) : Nat) : Int) by omega), List.length_replicate, if_pos (show t < 17592186044416 by omega), succ_nat t (by omega)]
    have : List.replicate t (4398046511104 : Int) ++ [4398046511104] = List.replicate (t + 1) 4398046511104 := by rw [List.replicate_succ']
    rw [this]
    exact h
theorem all_f (a : Int) : dbm_All.f a = some (if vars a = true then (a, eachTo (fun _ => mostF) a.toNat (List.replicate ((a.toNat + 1) * (a.toNat + 1)) 0) ((a.toNat + 1) * (a.toNat + 1)), 0) else (0, [], 1)) := by
  unfold dbm_All.f
  simp only [vars_f, Option.bind_some]
  by_cases hv : vars a = true
  · have h2 := of_decide_eq_true hv
    have hs := size_le (n := a.toNat) (by omega)
    simp only [if_pos hv, dbm_size.f, Option.bind_some, size_eq hv, if_pos (show (0 : Int) ≤ (((a.toNat + 1) * (a.toNat + 1) : Nat) : Int) by omega), Int.toNat_natCast, if_pos (show (a.toNat + 1) * (a.toNat + 1) ≤ 35184372088832 by omega)]
    unfold dbm_grid_each.f
    rw [if_pos ⟨h2.1, h2.2, List.length_replicate⟩]; rfl
  · simp only [if_neg hv]
/-! ### the reference's Same -/
end Go.Proofs.Ytgeemdpflcefkaa.DbmEv

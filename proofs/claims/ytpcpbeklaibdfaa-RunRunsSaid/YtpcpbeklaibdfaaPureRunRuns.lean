/- RunRuns: the states that any run comes to, and how it ends. -/
import Derived.Test.YtpcpbeklaibdfaaCx0
import Derived.Test.YtpcpbeklaibdfaaCx3
import Derived.Test.YtpcpbeklaibdfaaCx19
import Derived.Test.YtpcpbeklaibdfaaCx23
import Derived.Test.YtpcpbeklaibdfaaCx33
import Derived.Test.YtpcpbeklaibdfaaCx35
import Derived.Test.YtpcpbeklaibdfaaCx36
import Derived.Test.YtpcpbeklaibdfaaCx38
import Derived.Test.YtpcpbeklaibdfaaCx44
import Derived.Test.YtpcpbeklaibdfaaCx45
import Derived.Test.YtpcpbeklaibdfaaRunSem
set_option linter.unusedVariables false
set_option linter.unusedSimpArgs false
namespace Go.Proofs.Ytpcpbeklaibdfaa.RunEv
open Go.RowKit Go.Proofs.Ytpcpbeklaibdfaa.C Go.Proofs.YtpcpbeklaibdfaaW.PrintWords Go.Proofs.YtpcpbeklaibdfaaW.PrintLast
theorem ev_same_rows (l : List S29) (hl : l.length ≤ 1000) (hs : ∀ s ∈ l, s.f1.length ≤ 1000) : ∀ (m i : Nat), i + m = l.length → Ev (fun k => warrantorlaw13_RunRuns.l0 k l l (i : Int)) true
  | 0, i, hi => by
    refine Ev.succ (fun k => by rw [warrantorlaw13_RunRuns.l0]) ?_
    simp only [if_neg (show ¬ (i : Int) < (l.length : Int) by omega)]
    exact Ev.const rfl
  | m + 1, i, hi => by
    have hlt : i < l.length := by omega
    refine Ev.succ (fun k => by rw [warrantorlaw13_RunRuns.l0]) ?_
    simp only [if_pos (show (i : Int) < (l.length : Int) by omega), if_pos (Int.natCast_nonneg i)]
    have e : rd_T29 l (i : Int) = l[i] := by simp [rd_T29, List.getD_eq_getElem?_getD, List.getElem?_eq_getElem hlt]
    rw [e]
    refine Ev.bind (ev_Self _ _ (Nat.le_trans (hs _ (List.getElem_mem hlt)) (by omega))) ?_
    simp only [if_true]
    rw [w64 (by omega) (by omega)]
    exact ev_same_rows l hl hs m (i + 1) (by omega)
theorem runRuns : warrantorlaw13_RunRuns.Pure := by
  intro a l1 l2 l3 vs cs _ _ _ _ _ _ _ _ _ _ _ _ _ _ _ _
  refine Ev.get (r := true) ?_
  unfold warrantorlaw13_RunRuns.f warrantorlaw13_large.f
  obtain ⟨b, hb, hS⟩ := ev_Large a l1 l2 l3
  have hlv : Ev (fun k => (warrantorlaw13_lives.f k).bind fun t => some t) true := Ev.bind ev_lives (Ev.const rfl)
  have hbig : ∀ t : Bool, t = (b || (decide ((vs.length : Int) > 20) || decide ((cs.length : Int) > 300))) → Ev (fun k => (warrantorref11_Large.f k a l1 l2 l3).bind fun t => (if t = true then (some true) else (if (vs.length : Int) > 20 then (some true) else (some (decide ((cs.length : Int) > 300)))))) t := by
    intro t ht
    refine Ev.bind hb ?_
    rw [ht]
    cases b with
    | true => exact Ev.const rfl
    | false =>
      by_cases h : (vs.length : Int) > 20
      · exact Ev.const (by simp [h])
      · exact Ev.const (by simp [h])
  refine Ev.bind (hbig _ rfl) ?_
  cases hB : (b || (decide ((vs.length : Int) > 20) || decide ((cs.length : Int) > 300))) with
  | true => simp only [if_true]; exact hlv
  | false =>
    simp only [Bool.false_eq_true, if_false]
    simp only [Bool.or_eq_false_iff, decide_eq_false_iff_not] at hB
    have hs := hS hB.1
    have hv20 : vs.length ≤ 20 := by omega
    have hc300 : cs.length ≤ 300 := by omega
    have e1 : run_Run.f a l1 l2 l3 vs cs = (if chkB a l1 l2 l3 = true then (if valsB vs l1.length = true then (runO (fun pt vs x y => run_step.f a l1 l2 l3 pt vs x y) 0 vs cs).bind (fun q => some (⟨0, vs⟩ :: q.1, q.2)) else some ([], 1)) else some ([], 110)) := by
      unfold run_Run.f
      rw [if_pos ⟨by omega, by omega⟩, check_f hs, Option.bind_some]
      cases chkB a l1 l2 l3 <;> rfl
    cases hC : chkB a l1 l2 l3 with
    | false =>
      rw [hC] at e1
      simp only [e1, Bool.false_eq_true, if_false, Option.bind_some]
      refine Ev.bind ev_lives ?_
      simp only [if_true]
      have hch := ev_rCheck hs
      rw [hC] at hch
      refine Ev.bind hch ?_
      exact Ev.const rfl
    | true =>
      have hch := ev_rCheck hs
      rw [hC] at hch e1
      obtain ⟨hE, hp, h8⟩ := edges_of hC
      cases hV : valsB vs l1.length with
      | false =>
        rw [hV] at e1
        simp only [e1, Bool.false_eq_true, if_false, if_true, Option.bind_some]
        refine Ev.bind ev_lives ?_
        simp only [if_true]
        refine Ev.bind hch ?_
        simp only [if_true]
        have h1 := ev_rVals vs (by omega) l1.length
        rw [hV] at h1
        exact Ev.bind h1 (Ev.const rfl)
      | true =>
        obtain ⟨r, r1, r2, r3⟩ := runO_eq (a := a) (l2 := l2) h8 hE cs 0 vs hV
        have hrl := runO_vals (a := a) (l2 := l2) h8 hE cs 0 vs hV r r1
        rw [hV, r1] at e1
        simp only [e1, if_true, Option.bind_some]
        refine Ev.bind ev_lives ?_
        simp only [if_true]
        refine Ev.bind hch ?_
        simp only [if_true]
        have h1 := ev_rVals vs (by omega) l1.length
        rw [hV] at h1
        refine Ev.bind h1 ?_
        simp only [if_true]
        have h2 : Ev (fun k => warrantorref13_Run.f k a l1 l2 l3 vs cs) (⟨0, vs⟩ :: r.1, r.2) := by
          unfold warrantorref13_Run.f
          simp only [if_pos (show vs.length < 1000000 ∧ cs.length < 1000000 from ⟨by omega, by omega⟩)]
          exact Ev.bind r2 (Ev.const rfl)
        refine Ev.bind h2 ?_
        simp only [if_true, bne_self_eq_false]
        refine Ev.succ (fun k => by rw [warrantorlaw13_RunRuns.j0, if_neg Bool.false_ne_true]) ?_
        refine ev_same_rows (⟨0, vs⟩ :: r.1) (by simp; omega) ?_ (⟨0, vs⟩ :: r.1 : List S29).length 0 (Nat.zero_add _)
        intro s hs2
        rcases List.mem_cons.1 hs2 with rfl | h
        · show vs.length ≤ 1000; omega
        · have := (vals_iff _ _).1 (hrl s h); omega
end Go.Proofs.Ytpcpbeklaibdfaa.RunEv
namespace Go.Proofs.Ytpcpbeklaibdfaa.Pure
theorem RunRuns : Go.Proofs.Ytpcpbeklaibdfaa.C.warrantorlaw13_RunRuns.Pure := Go.Proofs.Ytpcpbeklaibdfaa.RunEv.runRuns
end Go.Proofs.Ytpcpbeklaibdfaa.Pure

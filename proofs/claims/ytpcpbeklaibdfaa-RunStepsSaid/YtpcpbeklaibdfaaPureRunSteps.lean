/- RunSteps: to which state any edge goes on from any one, or why not. -/
import Derived.Test.YtpcpbeklaibdfaaCx0
import Derived.Test.YtpcpbeklaibdfaaCx3
import Derived.Test.YtpcpbeklaibdfaaCx19
import Derived.Test.YtpcpbeklaibdfaaCx23
import Derived.Test.YtpcpbeklaibdfaaCx24
import Derived.Test.YtpcpbeklaibdfaaCx33
import Derived.Test.YtpcpbeklaibdfaaCx34
import Derived.Test.YtpcpbeklaibdfaaCx38
import Derived.Test.YtpcpbeklaibdfaaCx43
import Derived.Test.YtpcpbeklaibdfaaCx45
import Derived.Test.YtpcpbeklaibdfaaRunSem
set_option linter.unusedVariables false
set_option linter.unusedSimpArgs false
namespace Go.Proofs.Ytpcpbeklaibdfaa.RunEv
open Go.RowKit Go.Proofs.Ytpcpbeklaibdfaa.C Go.Proofs.YtpcpbeklaibdfaaW.PrintWords Go.Proofs.YtpcpbeklaibdfaaW.PrintLast
theorem rd_get (l : List Int) (i : Nat) (h : i < l.length) : rd l (i : Int) = l[i] := by
  unfold rd
  rw [List.getD_eq_getElem?_getD]
  simp [h]
theorem drop_eq (l r : List Int) (i : Nat) (h : i < l.length) (h' : i < r.length) : decide (l.drop i = r.drop i) = (decide (l[i] = r[i]) && decide (l.drop (i + 1) = r.drop (i + 1))) := by
  have e : (l[i] :: l.drop (i + 1) = r[i] :: r.drop (i + 1)) ↔ (l[i] = r[i] ∧ l.drop (i + 1) = r.drop (i + 1)) := ⟨fun z => List.cons.inj z, fun z => by rw [z.1, z.2]⟩
  rw [List.drop_eq_getElem_cons h, List.drop_eq_getElem_cons h', decide_eq_decide.2 e, Bool.decide_and]
theorem ev_SameL (a : Int) (l : List Int) (b : Int) (r : List Int) (hl : l.length ≤ 1000000) (hr : l.length = r.length) : ∀ (m i : Nat), i + m = l.length → Ev (fun k => warrantorref13_Same.l0 k (i : Int) a l b r) (decide (l.drop i = r.drop i))
  | 0, i, hi => by
    refine Ev.succ (fun k => by rw [warrantorref13_Same.l0]) ?_
    simp only [if_neg (show ¬ (i : Int) < (l.length : Int) by omega)]
    rw [List.drop_of_length_le (by omega), List.drop_of_length_le (by omega)]
    exact Ev.const rfl
  | m + 1, i, hi => by
    have hlt : i < l.length := by omega
    refine Ev.succ (fun k => by rw [warrantorref13_Same.l0]) ?_
    simp only [if_pos (show (i : Int) < (l.length : Int) by omega), if_pos (Int.natCast_nonneg i), if_pos (show (i : Int) < (r.length : Int) by omega)]
    rw [rd_get l i hlt, rd_get r i (by omega), drop_eq l r i hlt (by omega)]
    by_cases h : l[i] = r[i]
    · simp only [if_pos h]
      rw [w64 (by omega) (by omega), decide_eq_true h, Bool.true_and]
      exact ev_SameL a l b r hl hr m (i + 1) (by omega)
    · simp only [if_neg h]
      rw [decide_eq_false h]
      exact Ev.const rfl
theorem ev_rSame (a : Int) (l : List Int) (b : Int) (r : List Int) (hl : l.length ≤ 1000000) : Ev (fun k => warrantorref13_Same.f k a l b r) (decide (a = b) && decide (l = r)) := by
  unfold warrantorref13_Same.f
  have hbad : Ev (fun k => warrantorref13_Same.j0 k true a l b r) false := Ev.succ (b := fun _ => some false) (fun k => by rw [warrantorref13_Same.j0, if_pos rfl]) (Ev.const rfl)
  by_cases h : a = b
  · simp only [if_pos h]
    rw [decide_eq_true h, Bool.true_and]
    by_cases h2 : l.length = r.length
    · rw [show ((l.length : Int) != (r.length : Int)) = false from bne_eq_false_iff_eq.mpr (by omega)]
      refine Ev.succ (fun k => by rw [warrantorref13_Same.j0, if_neg Bool.false_ne_true]) ?_
      exact ev_SameL a l b r hl h2 l.length 0 (by omega)
    · rw [show ((l.length : Int) != (r.length : Int)) = true from bne_iff_ne.mpr (by omega), decide_eq_false (fun e => h2 (by rw [e]))]
      exact hbad
  · simp only [if_neg h]
    rw [decide_eq_false h]
    exact hbad
theorem ev_EqualL (l r : List Int) (hl : l.length ≤ 1000000) (hr : l.length = r.length) : ∀ (m i : Nat), i + m = l.length → Ev (fun k => slices_Equal_int_int.l0 k l r (l.length : Int) (i : Int)) (decide (l.drop i = r.drop i))
  | 0, i, hi => by
    refine Ev.succ (fun k => by rw [slices_Equal_int_int.l0]) ?_
    simp only [if_neg (show ¬ (i : Int) < (l.length : Int) by omega)]
    rw [List.drop_of_length_le (by omega), List.drop_of_length_le (by omega)]
    exact Ev.const rfl
  | m + 1, i, hi => by
    have hlt : i < l.length := by omega
    refine Ev.succ (fun k => by rw [slices_Equal_int_int.l0]) ?_
    simp only [if_pos (show (i : Int) < (l.length : Int) by omega), if_pos (Int.natCast_nonneg i), if_pos (show (i : Int) < (r.length : Int) by omega)]
    rw [rd_get l i hlt, rd_get r i (by omega), drop_eq l r i hlt (by omega)]
    by_cases h : l[i] = r[i]
    · simp only [if_pos h]
      rw [w64 (by omega) (by omega), decide_eq_true h, Bool.true_and]
      exact ev_EqualL l r hl hr m (i + 1) (by omega)
    · simp only [if_neg h]
      rw [decide_eq_false h]
      exact Ev.const rfl
theorem ev_Same (a : Int) (l : List Int) (b : Int) (r : List Int) (hl : l.length ≤ 1000000) : Ev (fun k => run_Same.f k a l b r) (decide (a = b) && decide (l = r)) := by
  unfold run_Same.f slices_Equal_int_int.f
  by_cases h : a = b
  · simp only [if_pos h]
    rw [decide_eq_true h, Bool.true_and]
    refine Ev.bind (a := decide (l = r)) ?_ (Ev.const rfl)
    by_cases h2 : l.length = r.length
    · simp only [if_pos (show (l.length : Int) = (r.length : Int) by omega)]
      exact ev_EqualL l r hl h2 l.length 0 (by omega)
    · simp only [if_neg (show ¬ (l.length : Int) = (r.length : Int) by omega)]
      rw [decide_eq_false (fun e => h2 (by rw [e]))]
      exact Ev.const rfl
  · simp only [if_neg h]
    rw [decide_eq_false h]
    exact Ev.const rfl
/-- Is it a state? -/
def stB (n : Nat) (m : Nat) (pt : Int) (vs : List Int) : Bool := decide (pt ≥ 0) && (decide (pt < (n : Int)) && valsB vs m)
theorem right_st (a : ByteArray) (l1 : List ByteArray) (l2 : List S53) (l3 : List S57) (pt : Int) (vs : List Int) : run_right.f a l1 l2 l3 pt vs = some (stB l2.length l1.length pt vs) := by
  unfold run_right.f stB
  by_cases h : pt ≥ 0
  · rw [if_pos h, decide_eq_true h, Bool.true_and]
    by_cases h2 : pt < (l2.length : Int)
    · rw [if_pos h2, decide_eq_true h2, Bool.true_and]; rfl
    · rw [if_neg h2, decide_eq_false h2]; rfl
  · rw [if_neg h, decide_eq_false h]; rfl
theorem ev_rRight (a : ByteArray) (l1 : List ByteArray) (l2 : List S53) (l3 : List S57) (pt : Int) (vs : List Int) (hv : vs.length ≤ 1000000) : Ev (fun k => warrantorref13_Right.f k a l1 l2 l3 pt vs) (stB l2.length l1.length pt vs) := by
  unfold warrantorref13_Right.f stB
  by_cases h : pt ≥ 0
  · simp only [if_pos h]
    rw [decide_eq_true h, Bool.true_and]
    by_cases h2 : pt < (l2.length : Int)
    · simp only [if_pos h2]
      rw [decide_eq_true h2, Bool.true_and]
      exact Ev.bind (ev_rVals vs hv l1.length) (Ev.const rfl)
    · simp only [if_neg h2]
      rw [decide_eq_false h2]
      exact Ev.const rfl
  · simp only [if_neg h]
    rw [decide_eq_false h]
    exact Ev.const rfl
theorem rRight_f {a : ByteArray} {l1 : List ByteArray} {l2 : List S53} {l3 : List S57} (h : Small a l1 l2 l3) (pt : Int) (vs : List Int) : run_Right.f a l1 l2 l3 pt vs = some (chkB a l1 l2 l3 && stB l2.length l1.length pt vs) := by
  unfold run_Right.f
  rw [check_f h, Option.bind_some, right_st]
  cases chkB a l1 l2 l3 <;> rfl
theorem runSteps : warrantorlaw13_RunSteps.Pure := by
  intro a l1 l2 l3 pt vs qt ws ed ch _ _ _ _ _ _ _ _ _ _ _ _ _ _ _ hw1 _ _ _ _
  refine Ev.get (r := true) ?_
  unfold warrantorlaw13_RunSteps.f warrantorlaw13_large.f
  obtain ⟨b, hb, hS⟩ := ev_Large a l1 l2 l3
  have hlv : Ev (fun k => warrantorlaw13_RunSteps.j0 k true a l1 l2 l3 pt vs qt ws ed ch) true := by
    refine Ev.succ (fun k => by rw [warrantorlaw13_RunSteps.j0, if_pos rfl]) ?_
    exact Ev.bind ev_lives (Ev.const rfl)
  have hbig : ∀ t : Bool, t = (b || decide ((vs.length : Int) > 20)) → Ev (fun k => (warrantorref11_Large.f k a l1 l2 l3).bind fun t => (if t = true then (some true) else (if (vs.length : Int) > 20 then (some true) else (some (decide (((([] : List S31).length : Nat) : Int) > 300)))))) t := by
    intro t ht
    refine Ev.bind hb ?_
    rw [ht]
    cases b with
    | true => exact Ev.const rfl
    | false =>
      by_cases h : (vs.length : Int) > 20
      · exact Ev.const (by simp [h])
      · exact Ev.const (by simp [h])
  refine Ev.bind (hbig _ rfl) ?_
  cases hB : (b || decide ((vs.length : Int) > 20)) with
  | true => simp only [if_true]; exact hlv
  | false =>
    simp only [Bool.false_eq_true, if_false]
    simp only [Bool.or_eq_false_iff, decide_eq_false_iff_not] at hB
    have hs := hS hB.1
    have hv20 : vs.length ≤ 20 := by omega
    by_cases hw : (ws.length : Int) > 20
    · rw [decide_eq_true hw]; exact hlv
    rw [decide_eq_false hw]
    refine Ev.succ (fun k => by rw [warrantorlaw13_RunSteps.j0, if_neg Bool.false_ne_true]) ?_
    have e1 : run_Step.f a l1 l2 l3 pt vs ed ch = (if chkB a l1 l2 l3 = true then (if stB l2.length l1.length pt vs = true then (run_step.f a l1 l2 l3 pt vs ed ch).bind (fun t => some (t.1, t.2.1, t.2.2)) else some (0, [], 1)) else some (0, [], 110)) := by
      unfold run_Step.f
      rw [check_f hs, Option.bind_some, right_st, Option.bind_some]
      cases chkB a l1 l2 l3 <;> cases stB l2.length l1.length pt vs <;> rfl
    have hch := ev_rCheck hs
    have hnil : Ev (fun k => warrantorref13_Same.f k 0 [] 0 []) true := ev_Self 0 [] (by simp)
    have hRi := rRight_f hs pt vs
    have hSm : Ev (fun k => (run_Same.f k pt vs qt ws).bind fun t313 => ((warrantorref13_Same.f k pt vs qt ws).bind fun t314 => some (t313 != t314))) false := by
      refine Ev.bind (ev_Same pt vs qt ws (by omega)) (Ev.bind (ev_rSame pt vs qt ws (by omega)) (Ev.const (by simp)))
    have hgo : ∀ x1 x2 x3, Ev (fun k => warrantorlaw13_RunSteps.j1 k x3 false a l1 l2 l3 pt vs ed ch x1 x2) true → Ev (fun k => (warrantorlaw13_lives.f k).bind fun t312 => (if t312 = true then ((run_Same.f k pt vs qt ws).bind fun t313 => ((warrantorref13_Same.f k pt vs qt ws).bind fun t314 => (warrantorlaw13_RunSteps.j1 k x3 (t313 != t314) a l1 l2 l3 pt vs ed ch x1 x2))) else (warrantorlaw13_RunSteps.j1 k x3 true a l1 l2 l3 pt vs ed ch x1 x2))) true := by
      intro x1 x2 x3 h
      refine Ev.bind ev_lives ?_
      simp only [if_true]
      refine Ev.bind (ev_Same pt vs qt ws (by omega)) (Ev.bind (ev_rSame pt vs qt ws (by omega)) ?_)
      rw [bne_self_eq_false]
      exact h
    cases hC : chkB a l1 l2 l3 with
    | false =>
      rw [hC] at e1 hch hRi
      simp only [e1, Bool.false_eq_true, if_false, Option.bind_some]
      refine hgo _ _ _ ?_
      refine Ev.succ (fun k => by rw [warrantorlaw13_RunSteps.j1, if_neg Bool.false_ne_true]) ?_
      refine Ev.bind hch ?_
      simp only [Bool.false_eq_true, if_false, if_true]
      refine Ev.bind hnil ?_
      simp only [if_true, hRi]
      exact Ev.const rfl
    | true =>
      rw [hC] at e1 hch hRi
      obtain ⟨hE, hp, h8⟩ := edges_of hC
      have hri := ev_rRight a l1 l2 l3 pt vs (by omega)
      cases hV : stB l2.length l1.length pt vs with
      | false =>
        rw [hV] at e1 hri hRi
        simp only [e1, Bool.false_eq_true, if_false, if_true, Option.bind_some]
        refine hgo _ _ _ ?_
        refine Ev.succ (fun k => by rw [warrantorlaw13_RunSteps.j1, if_neg Bool.false_ne_true]) ?_
        refine Ev.bind hch ?_
        simp only [if_true]
        refine Ev.bind hri ?_
        simp only [Bool.false_eq_true, if_false, if_true]
        refine Ev.bind hnil ?_
        simp only [if_true, hRi]
        exact Ev.const rfl
      | true =>
        rw [hV] at e1 hri hRi
        have hvs : valsB vs l1.length = true := by
          unfold stB at hV
          rw [Bool.and_eq_true, Bool.and_eq_true] at hV
          exact hV.2.2
        obtain ⟨s1, s2, s3⟩ := step_eq (a := a) (l2 := l2) h8 hE pt vs hvs ed ch
        rw [s1] at e1
        simp only [e1, if_true, Option.bind_some]
        refine hgo _ _ _ ?_
        refine Ev.succ (fun k => by rw [warrantorlaw13_RunSteps.j1, if_neg Bool.false_ne_true]) ?_
        refine Ev.bind hch ?_
        simp only [if_true]
        refine Ev.bind hri ?_
        simp only [if_true]
        refine Ev.bind s2 ?_
        simp only [hRi, Option.bind_some, Bool.and_self, if_true]
        refine Ev.bind (ev_Self _ _ ?_) (Ev.const rfl)
        by_cases h0 : (stepB pt vs ed ch l3).2.2 = 0
        · have := (vals_iff _ _).1 (s3 h0); omega
        · unfold stepB at h0 ⊢
          by_cases c1 : 0 ≤ ed ∧ ed < l3.length
          · rw [if_pos c1] at h0 ⊢
            by_cases c2 : (rd_T57 l3 ed).f0 = pt
            · rw [if_pos c2] at h0 ⊢
              by_cases c3 : (doesB (rd_T57 l3 ed).f2.f0 (rd_T57 l3 ed).f2.f1 (rd_T57 l3 ed).f2.f2 (rd_T57 l3 ed).f2.f3 (rd_T57 l3 ed).f2.f4 ch vs).1 = 0
              · rw [if_pos c3] at h0; exact absurd rfl h0
              · rw [if_neg c3]; simp
            · rw [if_neg c2]; simp
          · rw [if_neg c1]; simp
end Go.Proofs.Ytpcpbeklaibdfaa.RunEv
namespace Go.Proofs.Ytpcpbeklaibdfaa.Pure
theorem RunSteps : Go.Proofs.Ytpcpbeklaibdfaa.C.warrantorlaw13_RunSteps.Pure := Go.Proofs.Ytpcpbeklaibdfaa.RunEv.runSteps
end Go.Proofs.Ytpcpbeklaibdfaa.Pure

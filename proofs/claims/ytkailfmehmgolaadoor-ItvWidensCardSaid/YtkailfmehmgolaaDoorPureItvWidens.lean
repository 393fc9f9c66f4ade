/- Widening by one interval behind the other changes at most three times: the walk's pure function answers true for all inputs. -/
import Derived.Test.YtkailfmehmgolaaDoorRx25
import Derived.Test.YtkailfmehmgolaaDoorItvLaw
namespace Go.Proofs.YtkailfmehmgolaaDoor.ItvEv
open Go.RowKit Go.Proofs.YtkailfmehmgolaaDoor.R Go.Proofs.YtkailfmehmgolaaDoorW.PrintWords Go.Proofs.YtkailfmehmgolaaDoorW.PrintLast
/-- How often an interval may still change, widened: none has all ends free. -/
def left (p : IP) : Int := if isN p = true then 3 else (if p.1 = -1099511627776 then 0 else 1) + (if p.2 = 1099511627776 then 0 else 1)
theorem left_rng (p : IP) : 0 ≤ left p ∧ left p ≤ 3 := by
  unfold left
  split
  · omega
  · split <;> split <;> omega
theorem wide {p q : IP} (hp : WF p) (hq : WF q) : WF (widen p (join p q)) ∧ leq p (widen p (join p q)) = true ∧ leq q (widen p (join p q)) = true ∧ (eqp p (widen p (join p q)) = true ∨ left (widen p (join p q)) + 1 ≤ left p) := by
  have hj := wf_join hp hq
  have hw := wf_widen hp hj
  refine ⟨hw, ?_⟩
  rw [leq_iff hp hw, leq_iff hq hw, eqp_iff]
  rcases join_cases hp hq with ⟨rfl, e⟩ | ⟨h1, rfl, e⟩ | ⟨h1, h2, e⟩
  · have e2 : widen (1, 0) (join (1, 0) q) = q := by rw [e]; rfl
    rw [e2]
    refine ⟨.inl rfl, .inr ⟨Int.le_refl _, Int.le_refl _⟩, ?_⟩
    rcases hq with rfl | hq
    · exact .inl rfl
    · right
      have e3 : left (1, 0) = 3 := rfl
      rw [e3]
      unfold left
      rw [isN_some hq.2.1, if_neg Bool.false_ne_true]
      split <;> split <;> omega
  · have e2 : widen p (join p (1, 0)) = p := by
      rw [e]
      unfold widen
      rw [isN_some h1, if_neg Bool.false_ne_true, if_neg Bool.false_ne_true, if_neg (by omega), if_neg (by omega)]
    rw [e2]
    exact ⟨.inr ⟨Int.le_refl _, Int.le_refl _⟩, .inl rfl, .inl rfl⟩
  · have hp2 := hp.rng
    have hq2 := hq.rng
    have hjs : (min p.1 q.1 : Int) ≤ max p.2 q.2 := by omega
    have e2 : widen p (join p q) = (if min p.1 q.1 < p.1 then -1099511627776 else p.1, if max p.2 q.2 > p.2 then 1099511627776 else p.2) := by
      rw [e]
      unfold widen
      rw [isN_some h1, if_neg Bool.false_ne_true, isN_some (p := (min p.1 q.1, max p.2 q.2)) hjs, if_neg Bool.false_ne_true]
    rw [e2]
    have hl : left p = (if p.1 = -1099511627776 then 0 else 1) + (if p.2 = 1099511627776 then 0 else 1) := by
      unfold left; rw [isN_some h1, if_neg Bool.false_ne_true]
    rw [hl]
    by_cases c1 : min p.1 q.1 < p.1
    · by_cases c2 : max p.2 q.2 > p.2
      · rw [if_pos c1, if_pos c2]
        refine ⟨.inr ⟨by dsimp only; omega, by dsimp only; omega⟩, .inr ⟨by dsimp only; omega, by dsimp only; omega⟩, .inr ?_⟩
        have e3 : left (-1099511627776, 1099511627776) = 0 := by decide
        rw [e3, if_neg (by omega), if_neg (by omega)]; decide
      · rw [if_pos c1, if_neg c2]
        refine ⟨.inr ⟨by dsimp only; omega, by dsimp only; omega⟩, .inr ⟨by dsimp only; omega, by dsimp only; omega⟩, .inr ?_⟩
        have e3 : left (-1099511627776, p.2) = 0 + (if p.2 = 1099511627776 then 0 else 1) := by
          unfold left; rw [isN_some (p := (-1099511627776, p.2)) (by dsimp only; omega), if_neg Bool.false_ne_true]; rfl
        rw [e3, if_neg (show ¬ p.1 = -1099511627776 by omega)]; split <;> omega
    · by_cases c2 : max p.2 q.2 > p.2
      · rw [if_neg c1, if_pos c2]
        refine ⟨.inr ⟨by dsimp only; omega, by dsimp only; omega⟩, .inr ⟨by dsimp only; omega, by dsimp only; omega⟩, .inr ?_⟩
        have e3 : left (p.1, 1099511627776) = (if p.1 = -1099511627776 then 0 else 1) + 0 := by
          unfold left; rw [isN_some (p := (p.1, 1099511627776)) (by dsimp only; omega), if_neg Bool.false_ne_true]; rfl
        rw [e3, if_neg (show ¬ p.2 = 1099511627776 by omega)]; split <;> omega
      · rw [if_neg c1, if_neg c2]
        exact ⟨.inr ⟨Int.le_refl _, Int.le_refl _⟩, .inr ⟨by dsimp only; omega, by dsimp only; omega⟩, .inl rfl⟩
def pS (l : List S23) (i : Nat) : IP := pl (rd_T23 l (i : Int)).f0 (rd_T23 l (i : Int)).f1
theorem lives_ge (q : Nat) : warrantorlaw07_lives.f (58 + 1 + 1 + q) = some true := by
  induction q with
  | zero => exact livesL_f
  | succ q ih => exact warrantorlaw07_lives.mono _ _ ih
theorem loop_ok (l : List S23) (hl : l.length ≤ 300) : ∀ (m i : Nat) (n a b : Int), i + m = l.length → 0 ≤ n → n + left (pl a b) ≤ 3 → warrantorlaw07_ItvWidens.l0 (58 + 1 + 1 + (m + m) + 1) l n (i : Int) a b = some true := by
  intro m
  induction m with
  | zero =>
    intro i n a b him h0 hn
    have := (left_rng (pl a b)).1
    have e : warrantorlaw07_lives.f (58 + 2) = some true := livesL_f
    rw [warrantorlaw07_ItvWidens.l0, if_neg (by omega), e, Option.bind_some, if_pos rfl, decide_eq_true (by omega)]
  | succ m ih =>
    intro i n a b him h0 hn
    have hp := wf_pl a b
    have hq := wf_pl (rd_T23 l (i : Int)).f0 (rd_T23 l (i : Int)).f1
    obtain ⟨hw, h1, h2, h3⟩ := wide hp hq
    have hj := wf_join hp hq
    have hl0 := left_rng (pl a b)
    rw [show 58 + 1 + 1 + (m + 1 + (m + 1)) + 1 = (58 + 1 + 1 + (m + m) + 1 + 1) + 1 by omega, warrantorlaw07_ItvWidens.l0, if_pos (by omega), if_pos (by omega), join_f, Option.bind_some, widen_f, Option.bind_some, pl_self hj, leq_f, Option.bind_some, pl_self hw, h1, if_pos rfl, leq_f, Option.bind_some, pl_self hw, h2, warrantorlaw07_ItvWidens.j1, if_neg (by decide), same_f, Option.bind_some, pl_self hw, w64 (x := (i : Int) + 1) (by omega) (by omega)]
    rcases h3 with h3 | h3
    · rw [h3, if_pos rfl]
      refine ih (i + 1) n _ _ (by omega) h0 ?_
      rw [pl_self hw, ← (eqp_iff _ _).1 h3]
      exact hn
    · rw [w64 (x := n + 1) (by omega) (by omega)]
      split
      · next h4 =>
        refine ih (i + 1) n _ _ (by omega) h0 ?_
        rw [pl_self hw, ← (eqp_iff _ _).1 h4]
        exact hn
      · refine ih (i + 1) (n + 1) _ _ (by omega) (by omega) ?_
        rw [pl_self hw]
        omega
theorem pure_ItvWidens : warrantorlaw07_ItvWidens.Pure := by
  intro a b l _ _ _ _ _
  unfold warrantorlaw07_ItvWidens.f
  by_cases h : (l.length : Int) > 300
  · refine ⟨58 + 1 + 1, ?_⟩
    rw [if_pos h, livesL_f]
    rfl
  · refine ⟨58 + 1 + 1 + (l.length + l.length) + 1, ?_⟩
    rw [if_neg h]
    have := (left_rng (pl a b)).2
    exact loop_ok l (by omega) l.length 0 0 a b (by omega) (by omega) (by omega)
end Go.Proofs.YtkailfmehmgolaaDoor.ItvEv
namespace Go.Proofs.YtkailfmehmgolaaDoor.Pure
open Go.RowKit Go.Proofs.YtkailfmehmgolaaDoor.R Go.Proofs.YtkailfmehmgolaaDoorW.PrintWords Go.Proofs.YtkailfmehmgolaaDoorW.PrintLast
theorem ItvWidens : warrantorlaw07_ItvWidens.Pure := ItvEv.pure_ItvWidens
end Go.Proofs.YtkailfmehmgolaaDoor.Pure

/- Whether any value is in intervals is what it must be by those that were handed in: the walk's pure function answers true for all inputs. -/
import Derived.Test.YtkailfmehmgolaaDoorRx21
import Derived.Test.YtkailfmehmgolaaDoorItvLaw
namespace Go.Proofs.YtkailfmehmgolaaDoor.ItvEv
open Go.RowKit Go.Proofs.YtkailfmehmgolaaDoor.R Go.Proofs.YtkailfmehmgolaaDoorW.PrintWords Go.Proofs.YtkailfmehmgolaaDoorW.PrintLast
def isv (v : Int) : Bool := decide (-1099511627776 ≤ v ∧ v ≤ 1099511627776)
theorem isv_iff (v : Int) : isv v = true ↔ -1099511627776 ≤ v ∧ v ≤ 1099511627776 := by unfold isv; rw [decide_eq_true_eq]
theorem isr_f (a : Int) : warrantorref06_Is.f a = some (isv a) := by
  unfold warrantorref06_Is.f isv
  split
  · next h => simp [show (-1099511627776 : Int) ≤ a from h]
  · next h => simp [show ¬ (-1099511627776 : Int) ≤ a from h]
theorem has_iff (p : IP) (v : Int) : has p v = true ↔ p.1 ≤ v ∧ v ≤ p.2 := by unfold has; rw [decide_eq_true_eq]
theorem has_none (v : Int) : has (1, 0) v = false := by
  unfold has; rw [decide_eq_false_iff_not]; show ¬ ((1 : Int) ≤ v ∧ v ≤ 0); omega
theorem has_pl (a b v : Int) : has (pl a b) v = (isv v && (decide (a ≤ v) && decide (v ≤ b))) := by
  apply Bool.eq_iff_iff.2
  rw [has_iff, Bool.and_eq_true, Bool.and_eq_true, isv_iff, decide_eq_true_eq, decide_eq_true_eq]
  unfold pl
  split
  · show (1 ≤ v ∧ v ≤ 0) ↔ _; omega
  · show (max a _ ≤ v ∧ v ≤ min b _) ↔ _; omega
theorem has_meet {p q : IP} (hp : WF p) (hq : WF q) (v : Int) : has (meet p q) v = (has p v && has q v) := by
  have h1 := hp.rng
  have h2 := hq.rng
  unfold meet
  rw [has_pl]
  apply Bool.eq_iff_iff.2
  rw [Bool.and_eq_true, Bool.and_eq_true, Bool.and_eq_true, isv_iff, decide_eq_true_eq, decide_eq_true_eq, has_iff, has_iff]
  omega
theorem has_join {p q : IP} (hp : WF p) (hq : WF q) {v : Int} (h : has p v = true) : has (join p q) v = true := by
  rw [has_iff] at *
  rcases join_cases hp hq with ⟨rfl, e⟩ | ⟨h1, rfl, e⟩ | ⟨h1, h2, e⟩ <;> rw [e]
  · replace h : (1 : Int) ≤ v ∧ v ≤ 0 := h; omega
  · exact h
  · show min _ _ ≤ v ∧ v ≤ max _ _; omega
theorem widen_cases {p q : IP} (hp : WF p) (hq : WF q) : (p = (1, 0) ∧ widen p q = q) ∨ (p.1 ≤ p.2 ∧ q = (1, 0) ∧ widen p q = p) ∨ (p.1 ≤ p.2 ∧ q.1 ≤ q.2 ∧ widen p q = (if q.1 < p.1 then -1099511627776 else p.1, if q.2 > p.2 then 1099511627776 else p.2)) := by
  unfold widen
  rcases hp with rfl | hp
  · exact .inl ⟨rfl, rfl⟩
  · rw [isN_some hp.2.1, if_neg Bool.false_ne_true]
    rcases hq with rfl | hq
    · exact .inr (.inl ⟨hp.2.1, rfl, rfl⟩)
    · rw [isN_some hq.2.1, if_neg Bool.false_ne_true]
      exact .inr (.inr ⟨hp.2.1, hq.2.1, rfl⟩)
theorem has_widen {p q : IP} (hp : WF p) (hq : WF q) {v : Int} (h : has p v = true ∨ has q v = true) : has (widen p q) v = true := by
  have h1 := hp.rng
  have h2 := hq.rng
  simp only [has_iff] at *
  rcases widen_cases hp hq with ⟨rfl, e⟩ | ⟨h1, rfl, e⟩ | ⟨h1, h2, e⟩ <;> rw [e]
  · rcases h with h | h
    · replace h : (1 : Int) ≤ v ∧ v ≤ 0 := h; omega
    · exact h
  · rcases h with h | h
    · exact h
    · replace h : (1 : Int) ≤ v ∧ v ≤ 0 := h; omega
  · dsimp only
    split <;> split <;> omega
theorem wf_neg {p : IP} (hp : WF p) : WF (neg p) := by
  unfold neg
  split
  · exact .inl rfl
  · next h =>
    rcases hp with rfl | hp
    · exact absurd rfl h
    · right; dsimp only; omega
theorem has_neg {p : IP} (hp : WF p) (v : Int) : has (neg p) (-v) = has p v := by
  unfold neg
  rcases hp with rfl | hp
  · rw [if_pos isN_none, has_none, has_none]
  · rw [isN_some hp.2.1, if_neg Bool.false_ne_true]
    apply Bool.eq_iff_iff.2
    rw [has_iff, has_iff]
    dsimp only
    omega
theorem has_plus {p q : IP} (hp : WF p) (hq : WF q) {v w : Int} (h : has p v = true) (h' : has q w = true) : has (plus p q) (v + w) = isv (v + w) := by
  unfold plus
  rcases hp with rfl | hp
  · rw [has_none] at h; cases h
  · rcases hq with rfl | hq
    · rw [has_none] at h'; cases h'
    · rw [has_iff] at h h'
      rw [isN_some hp.2.1, isN_some hq.2.1, if_neg Bool.false_ne_true, if_neg Bool.false_ne_true, has_pl, decide_eq_true (show p.1 + q.1 ≤ v + w by omega), decide_eq_true (show v + w ≤ p.2 + q.2 by omega)]
      simp
theorem wf_plus (p q : IP) : WF (plus p q) := by
  unfold plus
  split
  · exact .inl rfl
  · split
    · exact .inl rfl
    · exact wf_pl _ _
theorem wf_move (p : IP) (c : Int) : WF (move p c) := by
  unfold move
  split
  · exact .inl rfl
  · split
    · exact .inl rfl
    · split
      · exact .inl rfl
      · exact wf_pl _ _
theorem has_move {p : IP} (hp : WF p) {v c : Int} (hv : isv v = true) (hc : isv c = true) : has (move p c) v = has p (v - c) := by
  rw [isv_iff] at hv hc
  unfold move
  rcases hp with rfl | hp
  · rw [if_pos isN_none, has_none, has_none]
  · rw [isN_some hp.2.1, if_neg Bool.false_ne_true, if_neg (by omega), if_neg (by omega), has_pl]
    apply Bool.eq_iff_iff.2
    rw [Bool.and_eq_true, Bool.and_eq_true, isv_iff, decide_eq_true_eq, decide_eq_true_eq, has_iff]
    omega
theorem j4_ok (k : Nat) (x2 x3 : Int) (b : Bool) (lo hi : Int) (h : b = false → isv x3 = true ∧ isv x2 = true) : warrantorlaw07_ItvSets.j4 (k + 1 + 1) x2 x3 b lo hi = some true := by
  rw [warrantorlaw07_ItvSets.j4]
  cases b with
  | true => rfl
  | false =>
    obtain ⟨h3, h2⟩ := h rfl
    have e3 := (isv_iff _).1 h3
    have e2 := (isv_iff _).1 h2
    rw [if_neg Bool.false_ne_true, isr_f, Option.bind_some, w64 (x := x3 - x2) (by omega) (by omega)]
    split
    · rw [move_f _ _ _ _ (by omega) (by omega)]
      simp only [Option.bind_some, has_f]
      rw [pl_self (wf_move _ _), has_move (wf_pl lo hi) h3 h2, beq_self_eq_true]
    · rfl
theorem j3_ok (k : Nat) (x2 x3 lo hi : Int) : warrantorlaw07_ItvSets.j3 (k + 1 + 1 + 1) x2 x3 false lo hi = some true := by
  rw [warrantorlaw07_ItvSets.j3]
  simp only [if_neg Bool.false_ne_true, isr_f, Option.bind_some]
  split
  · next h => exact j4_ok k _ _ _ _ _ (fun hb => ⟨h, by simpa using hb⟩)
  · exact j4_ok k _ _ _ _ _ (fun hb => by cases hb)
theorem j2_ok (k : Nat) (x2 x3 x4 a b c d : Int) : warrantorlaw07_ItvSets.j2 (k + 1 + 1 + 1 + 1) x2 x3 x4 false a b c d = some true := by
  rw [warrantorlaw07_ItvSets.j2]
  simp only [if_neg Bool.false_ne_true, isr_f, Option.bind_some, has_f, plus_f]
  split
  · next h3 =>
    have e3 := (isv_iff _).1 h3
    split
    · next h4 =>
      have e4 := (isv_iff _).1 h4
      split
      · next hp =>
        split
        · next hq =>
          rw [w64 (x := x3 + x4) (by omega) (by omega), pl_self (wf_plus _ _), has_plus (wf_pl a b) (wf_pl c d) hp hq, bne_self_eq_false]
          exact j3_ok k _ _ _ _
        · exact j3_ok k _ _ _ _
      · exact j3_ok k _ _ _ _
    · exact j3_ok k _ _ _ _
  · exact j3_ok k _ _ _ _
theorem j1_ok (k : Nat) (x2 x3 x4 a b c d : Int) : warrantorlaw07_ItvSets.j1 (k + 1 + 1 + 1 + 1 + 1) x2 x3 x4 false a b c d = some true := by
  rw [warrantorlaw07_ItvSets.j1]
  simp only [if_neg Bool.false_ne_true, isr_f, Option.bind_some, has_f, neg_f]
  split
  · next h3 =>
    have e3 := (isv_iff _).1 h3
    rw [w64 (x := -x3) (by omega) (by omega), pl_self (wf_neg (wf_pl a b)), has_neg (wf_pl a b), bne_self_eq_false]
    exact j2_ok k _ _ _ _ _ _ _
  · exact j2_ok k _ _ _ _ _ _ _
theorem j0_ok (k : Nat) (x2 x3 x4 a b c d : Int) : warrantorlaw07_ItvSets.j0 (k + 1 + 1 + 1 + 1 + 1 + 1) x2 x3 x4 false a b c d = some true := by
  have hp := wf_pl a b
  have hq := wf_pl c d
  rw [warrantorlaw07_ItvSets.j0]
  simp only [if_neg Bool.false_ne_true, Option.bind_some, has_f, join_f, widen_f, pl_self (wf_join hp hq), pl_self (wf_widen hp hq)]
  by_cases h1 : has (pl a b) x3 = true
  · simp only [h1, if_pos, has_join hp hq h1, has_widen hp hq (.inl h1), Bool.not_true]
    split <;> exact j1_ok k _ _ _ _ _ _ _
  · by_cases h2 : has (pl c d) x3 = true
    · simp only [h2, if_pos, if_neg h1, has_widen hp hq (.inr h2)]
      exact j1_ok k _ _ _ _ _ _ _
    · simp only [if_neg h2, if_neg h1]
      exact j1_ok k _ _ _ _ _ _ _
theorem lives60 : warrantorlaw07_lives.f (54 + 1 + 1 + 1 + 1 + 1 + 1) = some true := livesL_f
theorem pure_ItvSets : warrantorlaw07_ItvSets.Pure := by
  intro a b c d x2 x3 x4 _ _ _ _ _ _ _
  refine ⟨54 + 1 + 1 + 1 + 1 + 1 + 1, ?_⟩
  have hp := wf_pl a b
  have hq := wf_pl c d
  have hA : has (pl (-1099511627776) 1099511627776) x3 = isv x3 := by
    rw [has_pl]
    apply Bool.eq_iff_iff.2
    rw [Bool.and_eq_true, Bool.and_eq_true, isv_iff, decide_eq_true_eq, decide_eq_true_eq]
    omega
  have hN : has (pl 1 0) x3 = false := has_none x3
  unfold warrantorlaw07_ItvSets.f
  rw [lives60, Option.bind_some, if_pos rfl, meet_f, Option.bind_some, has_f, Option.bind_some, has_f, Option.bind_some, pl_self (wf_meet _ _), has_meet hp hq]
  rw [has_f, Option.bind_some, all_f, Option.bind_some, has_f, Option.bind_some, isr_f, Option.bind_some, none_f, Option.bind_some, has_f, Option.bind_some, hA, hN, bne_self_eq_false, if_neg Bool.false_ne_true, j0_ok 54]
  cases has (pl a b) x3 <;> cases has (pl c d) x3 <;> rfl
end Go.Proofs.YtkailfmehmgolaaDoor.ItvEv
namespace Go.Proofs.YtkailfmehmgolaaDoor.Pure
open Go.RowKit Go.Proofs.YtkailfmehmgolaaDoor.R Go.Proofs.YtkailfmehmgolaaDoorW.PrintWords Go.Proofs.YtkailfmehmgolaaDoorW.PrintLast
theorem ItvSets : warrantorlaw07_ItvSets.Pure := ItvEv.pure_ItvSets
end Go.Proofs.YtkailfmehmgolaaDoor.Pure

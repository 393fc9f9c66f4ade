/- chapter 07: laws of intervals -/
import Derived.Test.YtkailfmehmgolaaDoorItvEv
import Derived.Test.YtkailfmehmgolaaDoorRx14
namespace Go.Proofs.YtkailfmehmgolaaDoor.ItvEv
open Go.RowKit Go.Proofs.YtkailfmehmgolaaDoor.R Go.Proofs.YtkailfmehmgolaaDoorW.PrintWords Go.Proofs.YtkailfmehmgolaaDoorW.PrintLast
theorem livesL_f : warrantorlaw07_lives.f (58 + 1 + 1) = some true := by decide +kernel
theorem leq_iff {p q : IP} (hp : WF p) (hq : WF q) : leq p q = true ↔ p = (1, 0) ∨ (q.1 ≤ p.1 ∧ p.2 ≤ q.2) := by
  unfold leq
  rw [eqp_iff]
  rcases hp with rfl | hp
  · exact ⟨fun _ => .inl rfl, fun _ => meet_none (.inl rfl) hq (.inl rfl)⟩
  · unfold meet pl
    constructor
    · intro h
      right
      split at h
      · rw [← h] at hp; exact absurd hp.2.1 (by decide)
      · have h1 : max (max p.1 q.1) (-1099511627776) = p.1 := congrArg Prod.fst h
        have h2 : min (min p.2 q.2) 1099511627776 = p.2 := congrArg Prod.snd h
        omega
    · rintro (rfl | h)
      · exact absurd hp.2.1 (by decide)
      · rw [if_neg (by omega)]
        exact Prod.ext (by show max (max p.1 q.1) _ = p.1; omega) (by show min (min p.2 q.2) _ = p.2; omega)
theorem wf_ne {p : IP} (h : p.1 ≤ p.2) : p ≠ (1, 0) := by rintro rfl; exact absurd h (by decide)
theorem join_cases {p q : IP} (hp : WF p) (hq : WF q) : (p = (1, 0) ∧ join p q = q) ∨ (p.1 ≤ p.2 ∧ q = (1, 0) ∧ join p q = p) ∨ (p.1 ≤ p.2 ∧ q.1 ≤ q.2 ∧ join p q = (min p.1 q.1, max p.2 q.2)) := by
  unfold join
  rcases hp with rfl | hp
  · exact .inl ⟨rfl, rfl⟩
  · rw [isN_some hp.2.1, if_neg Bool.false_ne_true]
    rcases hq with rfl | hq
    · exact .inr (.inl ⟨hp.2.1, rfl, rfl⟩)
    · rw [isN_some hq.2.1, if_neg Bool.false_ne_true]
      exact .inr (.inr ⟨hp.2.1, hq.2.1, rfl⟩)
theorem leq_join {p q r : IP} (hp : WF p) (hq : WF q) (hr : WF r) : leq (join p q) r = (leq p r && leq q r) := by
  apply Bool.eq_iff_iff.2
  rw [leq_iff (wf_join hp hq) hr, Bool.and_eq_true, leq_iff hp hr, leq_iff hq hr]
  rcases join_cases hp hq with ⟨rfl, e⟩ | ⟨h1, rfl, e⟩ | ⟨h1, h2, e⟩ <;> rw [e]
  · exact ⟨fun h => ⟨.inl rfl, h⟩, fun h => h.2⟩
  · exact ⟨fun h => ⟨h, .inl rfl⟩, fun h => h.1⟩
  · constructor
    · rintro (h | h)
      · have e1 : min p.1 q.1 = 1 := congrArg Prod.fst h
        have e2 : max p.2 q.2 = 0 := congrArg Prod.snd h
        omega
      · replace h : r.1 ≤ min p.1 q.1 ∧ max p.2 q.2 ≤ r.2 := h
        exact ⟨.inr (by omega), .inr (by omega)⟩
    · rintro ⟨h3 | h3, h4 | h4⟩
      · exact absurd h3 (wf_ne h1)
      · exact absurd h3 (wf_ne h1)
      · exact absurd h4 (wf_ne h2)
      · right; show r.1 ≤ min p.1 q.1 ∧ max p.2 q.2 ≤ r.2; omega
theorem leq_meet {p q r : IP} (hp : WF p) (hq : WF q) (hr : WF r) : leq r (meet p q) = (leq r p && leq r q) := by
  apply Bool.eq_iff_iff.2
  rw [leq_iff hr (wf_meet p q), Bool.and_eq_true, leq_iff hr hp, leq_iff hr hq]
  have hp2 := hp.rng
  have hq2 := hq.rng
  rcases hr with rfl | hr
  · simp
  · have hn := wf_ne hr.2.1
    unfold meet pl
    split
    · next h =>
      constructor
      · rintro (h3 | h3)
        · exact absurd h3 hn
        · exact absurd h3 (by show ¬ ((1 : Int) ≤ r.1 ∧ r.2 ≤ 0); omega)
      · rintro ⟨h3 | h3, h4 | h4⟩
        · exact absurd h3 hn
        · exact absurd h3 hn
        · exact absurd h4 hn
        · omega
    · next h =>
      constructor
      · rintro (h3 | h3)
        · exact absurd h3 hn
        · replace h3 : max (max p.1 q.1) (-1099511627776) ≤ r.1 ∧ r.2 ≤ min (min p.2 q.2) 1099511627776 := h3
          exact ⟨.inr (by omega), .inr (by omega)⟩
      · rintro ⟨h3 | h3, h4 | h4⟩
        · exact absurd h3 hn
        · exact absurd h3 hn
        · exact absurd h4 hn
        · right; show max (max p.1 q.1) (-1099511627776) ≤ r.1 ∧ r.2 ≤ min (min p.2 q.2) 1099511627776; omega
theorem leq_anti {p q : IP} (hp : WF p) (hq : WF q) : eqp p q = (leq p q && leq q p) := by
  apply Bool.eq_iff_iff.2
  rw [eqp_iff, Bool.and_eq_true, leq_iff hp hq, leq_iff hq hp]
  constructor
  · rintro rfl; exact ⟨.inr ⟨Int.le_refl _, Int.le_refl _⟩, .inr ⟨Int.le_refl _, Int.le_refl _⟩⟩
  · rintro ⟨h1 | h1, h2 | h2⟩
    · rw [h1, h2]
    · subst h1
      rcases hq with rfl | hq
      · rfl
      · replace h2 : (1 : Int) ≤ q.1 ∧ q.2 ≤ 0 := h2
        omega
    · subst h2
      rcases hp with rfl | hp
      · rfl
      · replace h1 : (1 : Int) ≤ p.1 ∧ p.2 ≤ 0 := h1
        omega
    · exact Prod.ext (by omega) (by omega)
end Go.Proofs.YtkailfmehmgolaaDoor.ItvEv

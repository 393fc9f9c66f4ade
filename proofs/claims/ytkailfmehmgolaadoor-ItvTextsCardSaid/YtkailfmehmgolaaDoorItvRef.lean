/- chapter 07: what the document's functions tell of intervals -/
import Derived.Test.YtkailfmehmgolaaDoorItvEv
import Derived.Test.YtkailfmehmgolaaDoorRx15
import Derived.Test.YtkailfmehmgolaaDoorRx16
import Derived.Test.YtkailfmehmgolaaDoorRx17
import Derived.Test.YtkailfmehmgolaaDoorRx18
import Derived.Test.YtkailfmehmgolaaDoorRx19
namespace Go.Proofs.YtkailfmehmgolaaDoor.ItvEv
open Go.RowKit Go.Proofs.YtkailfmehmgolaaDoor.R Go.Proofs.YtkailfmehmgolaaDoorW.PrintWords Go.Proofs.YtkailfmehmgolaaDoorW.PrintLast
theorem refClip_f (a : Int) : warrantorref06_Clip.f a = some (min (max a (-1099511627776)) 1099511627776) := by
  unfold warrantorref06_Clip.f
  split
  · congr 1; omega
  · split
    · congr 1; omega
    · congr 1; omega
theorem refIs_f (a : Int) : warrantorref06_Is.f a = some (decide (-1099511627776 ≤ a ∧ a ≤ 1099511627776)) := by
  unfold warrantorref06_Is.f
  split
  · next h => simp [show (-1099511627776 : Int) ≤ a from h]
  · next h => simp [show ¬ (-1099511627776 : Int) ≤ a from h]
theorem refNone_f : warrantorref07_None.f = some (1, 0) := rfl
theorem refOf_f (k : Nat) (a b : Int) : warrantorref07_Of.f (k + 1) a b = some (pl a b) := by
  unfold warrantorref07_Of.f pl
  simp only [warrantorref07_Of.j0, refNone_f, refClip_f, Option.bind_some, if_pos]
  split
  · rw [if_pos (by omega)]
  · split
    · rw [if_pos (by omega)]
    · by_cases h : b < -1099511627776
      · rw [if_pos (decide_eq_true h), if_pos (by omega)]
      · rw [if_neg (by simpa using h), if_neg (by omega)]
        congr 1
        exact Prod.ext (by show min (max a _) _ = max a _; omega) (by show min (max b _) _ = min b _; omega)
theorem refPlain_f (k : Nat) (a b : Int) : warrantorref07_Plain.f (k + 1) a b = some (pl a b) := by unfold warrantorref07_Plain.f; rw [refOf_f]; rfl
theorem refSize_f (k : Nat) (a b : Int) : warrantorref07_Size.f (k + 1) a b = some ((pl a b).2 - (pl a b).1 + 1) := by
  unfold warrantorref07_Size.f
  rw [refPlain_f, Option.bind_some]
  have := (wf_pl a b).rng
  rw [w64 (x := (pl a b).2 - (pl a b).1) (by omega) (by omega), w64 (by omega) (by omega)]
theorem refHas_f (a b v : Int) : warrantorref07_Has.f a b v = some (has (pl a b) v) := by
  unfold warrantorref07_Has.f
  rw [refIs_f, Option.bind_some]
  have e : has (pl a b) v = decide ((-1099511627776 ≤ v ∧ v ≤ 1099511627776) ∧ a ≤ v ∧ v ≤ b) := by
    unfold has pl
    apply Bool.eq_iff_iff.2
    rw [decide_eq_true_eq, decide_eq_true_eq]
    split
    · show (1 ≤ v ∧ v ≤ 0) ↔ _; omega
    · show (max a _ ≤ v ∧ v ≤ min b _) ↔ _; omega
  rw [e]
  by_cases h1 : -1099511627776 ≤ v ∧ v ≤ 1099511627776
  · rw [if_pos (decide_eq_true h1)]
    by_cases h2 : a ≤ v
    · rw [if_pos h2]; simp [h1, h2]
    · rw [if_neg h2]; simp [h2]
  · rw [if_neg (by simpa using h1)]; simp [h1]
theorem refEmpty_f (k : Nat) {p : IP} (h : WF p) : warrantorref07_empty.f (k + 1) p.1 p.2 = some (isN p) := by
  unfold warrantorref07_empty.f
  rw [refPlain_f, refNone_f, pl_self h]
  rfl
theorem refLeq_f (k : Nat) (a b c d : Int) : warrantorref07_Leq.f (k + 1) a b c d = some (leq (pl a b) (pl c d)) := by
  unfold warrantorref07_Leq.f
  simp only [refPlain_f, Option.bind_some, refEmpty_f k (wf_pl a b)]
  have hp := wf_pl a b
  have hq := wf_pl c d
  generalize pl a b = p at *
  generalize pl c d = q at *
  have hl : leq p q = (isN p || (decide (q.1 ≤ p.1) && decide (p.2 ≤ q.2))) := by
    unfold leq
    apply Bool.eq_iff_iff.2
    rw [eqp_iff, Bool.or_eq_true, Bool.and_eq_true, decide_eq_true_eq, decide_eq_true_eq]
    rcases hp with rfl | hp
    · simp [meet_none (.inl rfl) hq (.inl rfl), isN_none]
    · rw [isN_some hp.2.1]
      unfold meet pl
      constructor
      · intro h
        right
        split at h
        · rw [← h] at hp; exact absurd hp.2.1 (by decide)
        · have h1 : max (max p.1 q.1) (-1099511627776) = p.1 := congrArg Prod.fst h
          have h2 : min (min p.2 q.2) 1099511627776 = p.2 := congrArg Prod.snd h
          omega
      · rintro (h | h)
        · cases h
        · rw [if_neg (by omega)]
          exact Prod.ext (by show max (max p.1 q.1) _ = p.1; omega) (by show min (min p.2 q.2) _ = p.2; omega)
  rw [hl]
  cases isN p with
  | true => rfl
  | false =>
    simp only [if_neg Bool.false_ne_true, Bool.false_or]
    by_cases h : q.1 ≤ p.1
    · rw [if_pos h, decide_eq_true h]; rfl
    · rw [if_neg h, decide_eq_false h]; rfl
theorem refJoin_f (k : Nat) (a b c d : Int) : warrantorref07_Join.f (k + 1) a b c d = some (join (pl a b) (pl c d)) := by
  unfold warrantorref07_Join.f
  simp only [refPlain_f, Option.bind_some, refEmpty_f k (wf_pl a b), refEmpty_f k (wf_pl c d)]
  generalize pl a b = p
  generalize pl c d = q
  unfold join
  cases isN p with
  | true => rfl
  | false =>
    cases isN q with
    | true => rfl
    | false =>
      simp only [if_neg Bool.false_ne_true]
      split <;> split <;> exact congrArg some (Prod.ext (by dsimp only; omega) (by dsimp only; omega))
theorem refMeet_f (k : Nat) (a b c d : Int) : warrantorref07_Meet.f (k + 1) a b c d = some (meet (pl a b) (pl c d)) := by
  unfold warrantorref07_Meet.f
  simp only [refPlain_f, Option.bind_some]
  generalize pl a b = p
  generalize pl c d = q
  unfold meet
  split
  · next h1 =>
    rw [show max p.1 q.1 = q.1 by omega]
    split
    · next h2 => rw [show min p.2 q.2 = q.2 by omega]
    · next h2 => rw [show min p.2 q.2 = p.2 by omega]
  · next h1 =>
    rw [show max p.1 q.1 = p.1 by omega]
    split
    · next h2 => rw [show min p.2 q.2 = q.2 by omega]
    · next h2 => rw [show min p.2 q.2 = p.2 by omega]
theorem refPlus_f (k : Nat) (a b c d : Int) : warrantorref07_Plus.f (k + 1 + 1) a b c d = some (plus (pl a b) (pl c d)) := by
  have h1 := (wf_pl a b).rng
  have h2 := (wf_pl c d).rng
  unfold warrantorref07_Plus.f
  simp only [refPlain_f, Option.bind_some, refEmpty_f (k + 1) (wf_pl a b), refEmpty_f (k + 1) (wf_pl c d), warrantorref07_Plus.j0, refNone_f, refOf_f]
  rw [w64 (x := (pl a b).1 + (pl c d).1) (by omega) (by omega), w64 (x := (pl a b).2 + (pl c d).2) (by omega) (by omega)]
  unfold plus
  cases h1 : isN (pl a b) <;> cases h2 : isN (pl c d) <;> simp
theorem refNeg_f (k : Nat) (a b : Int) : warrantorref07_Neg.f (k + 1) a b = some (neg (pl a b)) := by
  have h1 := wf_pl a b
  have h2 := h1.rng
  unfold warrantorref07_Neg.f neg
  simp only [refPlain_f, Option.bind_some, refEmpty_f k (wf_pl a b), refOf_f]
  rw [w64 (x := -(pl a b).2) (by omega) (by omega), w64 (x := -(pl a b).1) (by omega) (by omega)]
  split
  · next h =>
    rcases h1 with h1 | h1
    · rw [h1]
    · rw [isN_some h1.2.1] at h; cases h
  · next h =>
    rcases h1 with h1 | h1
    · rw [h1] at h; exact absurd rfl h
    · exact congrArg some (pl_self (p := (-(pl a b).2, -(pl a b).1)) (.inr (by dsimp only; omega)))
theorem refMove_f (k : Nat) (a b c : Int) (h : -9223372036854775808 ≤ c) (h' : c ≤ 9223372036854775807) : warrantorref07_Move.f (k + 1 + 1) a b c = some (move (pl a b) c) := by
  have h2 := (wf_pl a b).rng
  unfold warrantorref07_Move.f move
  simp only [refPlain_f, Option.bind_some, refNone_f, refEmpty_f (k + 1) (wf_pl a b), warrantorref07_Move.j0, refOf_f]
  split
  · rfl
  · split
    · rfl
    · split
      · next h => rw [if_pos (of_decide_eq_true h)]
      · next hc1 h => rw [if_neg (by simpa using h), w64 (x := (pl a b).1 + c) (by simp at h; omega) (by omega), w64 (x := (pl a b).2 + c) (by simp at h; omega) (by omega)]
theorem refWiden_f (k : Nat) (a b c d : Int) : warrantorref07_Widen.f (k + 1) a b c d = some (widen (pl a b) (pl c d)) := by
  unfold warrantorref07_Widen.f
  simp only [refPlain_f, Option.bind_some, refEmpty_f k (wf_pl a b), refEmpty_f k (wf_pl c d)]
  generalize pl a b = p
  generalize pl c d = q
  unfold widen
  cases isN p with
  | true => rfl
  | false =>
    cases isN q with
    | true => rfl
    | false =>
      simp only [if_neg Bool.false_ne_true]
      split <;> split <;> rfl
end Go.Proofs.YtkailfmehmgolaaDoor.ItvEv

/- chapter 07: intervals: what the program's functions and the document's tell, in plain words -/
import Derived.Test.YtkailfmehmgolaaDoorRx6
namespace Go.Proofs.YtkailfmehmgolaaDoor.ItvEv
open Go.RowKit Go.Proofs.YtkailfmehmgolaaDoor.R Go.Proofs.YtkailfmehmgolaaDoorW.PrintWords Go.Proofs.YtkailfmehmgolaaDoorW.PrintLast
theorem w64 {x : Int} (h : -9223372036854775808 ≤ x) (h' : x ≤ 9223372036854775807) : wrap64 x = x := by unfold wrap64; omega
theorem mx_eq (a b : Int) : mx a b = max a b := by unfold mx; split <;> omega
theorem mn_eq (a b : Int) : mn a b = min a b := by unfold mn; split <;> omega
abbrev IP := Int × Int
/-- The plain one of two numbers. -/
def pl (a b : Int) : IP := if max a (-1099511627776) > min b 1099511627776 then (1, 0) else (max a (-1099511627776), min b 1099511627776)
def WF (p : IP) : Prop := p = (1, 0) ∨ (-1099511627776 ≤ p.1 ∧ p.1 ≤ p.2 ∧ p.2 ≤ 1099511627776)
theorem wf_pl (a b : Int) : WF (pl a b) := by
  unfold pl
  split
  · exact .inl rfl
  · right; show _ ≤ max a _ ∧ max a _ ≤ min b _ ∧ min b _ ≤ _; omega
theorem WF.rng {p : IP} (h : WF p) : -1099511627776 ≤ p.1 ∧ p.1 ≤ 1099511627776 ∧ -1099511627776 ≤ p.2 ∧ p.2 ≤ 1099511627776 := by
  rcases h with rfl | h
  · decide
  · omega
theorem pl_self {p : IP} (h : WF p) : pl p.1 p.2 = p := by
  rcases h with rfl | h
  · decide
  · unfold pl
    rw [if_neg (by omega)]
    exact Prod.ext (by show max p.1 _ = p.1; omega) (by show min p.2 _ = p.2; omega)
def isN (p : IP) : Bool := p.1 == 1 && p.2 == 0
theorem isN_none : isN (1, 0) = true := rfl
theorem isN_some {p : IP} (h : p.1 ≤ p.2) : isN p = false := by
  unfold isN
  rw [Bool.and_eq_false_iff]
  by_cases h1 : p.1 = 1
  · right; rw [beq_eq_false_iff_ne]; omega
  · left; rw [beq_eq_false_iff_ne]; exact h1
def eqp (p q : IP) : Bool := p.1 == q.1 && p.2 == q.2
theorem eqp_iff (p q : IP) : eqp p q = true ↔ p = q := by
  unfold eqp
  rw [Bool.and_eq_true, beq_iff_eq, beq_iff_eq]
  exact ⟨fun h => Prod.ext h.1 h.2, fun h => by rw [h]; exact ⟨rfl, rfl⟩⟩
def has (p : IP) (v : Int) : Bool := decide (p.1 ≤ v ∧ v ≤ p.2)
def meet (p q : IP) : IP := pl (max p.1 q.1) (min p.2 q.2)
def join (p q : IP) : IP := if isN p = true then q else if isN q = true then p else (min p.1 q.1, max p.2 q.2)
def widen (p q : IP) : IP := if isN p = true then q else if isN q = true then p else (if q.1 < p.1 then -1099511627776 else p.1, if q.2 > p.2 then 1099511627776 else p.2)
def plus (p q : IP) : IP := if isN p = true then (1, 0) else if isN q = true then (1, 0) else pl (p.1 + q.1) (p.2 + q.2)
def neg (p : IP) : IP := if isN p = true then (1, 0) else (-p.2, -p.1)
def move (p : IP) (c : Int) : IP := if isN p = true then (1, 0) else if c > 2199023255552 then (1, 0) else if c < -2199023255552 then (1, 0) else pl (p.1 + c) (p.2 + c)
def leq (p q : IP) : Bool := eqp (meet p q) p
theorem wf_meet (p q : IP) : WF (meet p q) := wf_pl _ _
theorem meet_none {p q : IP} (hp : WF p) (hq : WF q) (h : isN p = true ∨ isN q = true) : meet p q = (1, 0) := by
  unfold meet pl
  have hp2 := hp.rng
  have hq2 := hq.rng
  rw [if_pos]
  rcases h with h | h
  · rcases hp with rfl | hp
    · show max (max 1 _) _ > min (min 0 _) _; omega
    · rw [isN_some hp.2.1] at h; cases h
  · rcases hq with rfl | hq
    · show max (max _ 1) _ > min (min _ 0) _; omega
    · rw [isN_some hq.2.1] at h; cases h
theorem wf_join {p q : IP} (hp : WF p) (hq : WF q) : WF (join p q) := by
  unfold join
  split
  · exact hq
  · split
    · exact hp
    · next h1 h2 =>
      rcases hp with rfl | hp
      · exact absurd rfl h1
      · rcases hq with rfl | hq
        · exact absurd rfl h2
        · right; show _ ≤ min _ _ ∧ min _ _ ≤ max _ _ ∧ max _ _ ≤ _; omega
theorem wf_widen {p q : IP} (hp : WF p) (hq : WF q) : WF (widen p q) := by
  unfold widen
  split
  · exact hq
  · split
    · exact hp
    · next h1 h2 =>
      rcases hp with rfl | hp
      · exact absurd rfl h1
      · rcases hq with rfl | hq
        · exact absurd rfl h2
        · right
          dsimp only
          split <;> split <;> omega
theorem none_f : itv_None.f = some (1, 0) := rfl
theorem all_f : itv_All.f = some (-1099511627776, 1099511627776) := rfl
theorem of_f (a b : Int) : itv_Of.f a b = some (pl a b) := by
  unfold itv_Of.f itv_None.f pl
  rw [mx_eq, mn_eq]
  split <;> rfl
theorem plain_f (a b : Int) : itv_plain.f a b = some (pl a b) := by unfold itv_plain.f; rw [of_f]; rfl
theorem is_f (a b : Int) : itv_Is.f a b = some (eqp (pl a b) (a, b)) := by unfold itv_Is.f; rw [plain_f]; rfl
theorem size_f (a b : Int) : itv_Size.f a b = some ((pl a b).2 - (pl a b).1 + 1) := by
  unfold itv_Size.f
  rw [plain_f, Option.bind_some]
  have := (wf_pl a b).rng
  rw [w64 (x := (pl a b).2 - (pl a b).1) (by omega) (by omega), w64 (by omega) (by omega)]
theorem has_f (a b v : Int) : itv_Has.f a b v = some (has (pl a b) v) := by
  unfold itv_Has.f has
  rw [plain_f, Option.bind_some]
  split
  · next h => simp [show (pl a b).1 ≤ v from h]
  · next h => simp [show ¬ (pl a b).1 ≤ v from h]
theorem same_f (a b c d : Int) : itv_Same.f a b c d = some (eqp (pl a b) (pl c d)) := by unfold itv_Same.f; rw [plain_f, plain_f]; rfl
theorem both_f (a b c d : Int) : itv_both.f a b c d = some ((pl a b).1, (pl a b).2, (pl c d).1, (pl c d).2, !isN (pl a b) && !isN (pl c d)) := by
  unfold itv_both.f
  simp only [plain_f, none_f, Option.bind_some]
  have e : ∀ p : IP, (!(p.1 == 1) || !(p.2 == 0)) = !isN p := fun p => by unfold isN; rw [Bool.not_and]
  simp only [e]
  cases isN (pl a b) <;> rfl
theorem meet_f (a b c d : Int) : itv_Meet.f a b c d = some (meet (pl a b) (pl c d)) := by
  unfold itv_Meet.f
  rw [both_f]
  simp only [Option.bind_some, mx_eq, mn_eq, of_f, none_f]
  split
  · rfl
  · next h =>
    rw [meet_none (wf_pl a b) (wf_pl c d)]
    cases h1 : isN (pl a b) <;> cases h2 : isN (pl c d) <;> simp_all
theorem leq_f (a b c d : Int) : itv_Leq.f a b c d = some (leq (pl a b) (pl c d)) := by
  unfold itv_Leq.f leq
  rw [meet_f]
  simp only [Option.bind_some, same_f]
  rw [pl_self (wf_meet _ _)]
theorem join_f (a b c d : Int) : itv_Join.f a b c d = some (join (pl a b) (pl c d)) := by
  unfold itv_Join.f join
  rw [both_f]
  simp only [Option.bind_some, mx_eq, mn_eq, none_f]
  have e : ∀ p : IP, (p.1 == 1 && p.2 == 0) = isN p := fun _ => rfl
  simp only [e]
  cases h1 : isN (pl a b) <;> cases h2 : isN (pl c d) <;> simp
theorem widen_f (a b c d : Int) : itv_Widen.f a b c d = some (widen (pl a b) (pl c d)) := by
  unfold itv_Widen.f
  rw [both_f]
  simp only [Option.bind_some, join_f]
  rw [pl_self (wf_pl a b), pl_self (wf_pl c d)]
  unfold widen join
  cases h1 : isN (pl a b) <;> cases h2 : isN (pl c d) <;> simp
  split <;> split <;> rfl
theorem plus_f (a b c d : Int) : itv_Plus.f a b c d = some (plus (pl a b) (pl c d)) := by
  have h1 := (wf_pl a b).rng
  have h2 := (wf_pl c d).rng
  unfold itv_Plus.f plus
  rw [both_f]
  simp only [Option.bind_some, of_f, none_f]
  rw [w64 (x := (pl a b).1 + (pl c d).1) (by omega) (by omega), w64 (x := (pl a b).2 + (pl c d).2) (by omega) (by omega)]
  cases h1 : isN (pl a b) <;> cases h2 : isN (pl c d) <;> simp
theorem neg_f (a b : Int) : itv_Neg.f a b = some (neg (pl a b)) := by
  have h1 := wf_pl a b
  have h2 := h1.rng
  unfold itv_Neg.f neg
  simp only [plain_f, Option.bind_some, none_f]
  rw [w64 (x := -(pl a b).2) (by omega) (by omega), w64 (x := -(pl a b).1) (by omega) (by omega)]
  have e : ∀ p : IP, (p.1 == 1 && p.2 == 0) = isN p := fun _ => rfl
  rw [e]
  split
  · next h =>
    rcases h1 with h1 | h1
    · rw [h1]
    · rw [isN_some h1.2.1] at h; cases h
  · rfl
theorem move_f (k : Nat) (a b c : Int) (h : -9223372036854775808 ≤ c) (h' : c ≤ 9223372036854775807) : itv_Move.f (k + 1) a b c = some (move (pl a b) c) := by
  have h2 := (wf_pl a b).rng
  unfold itv_Move.f move
  simp only [plain_f, Option.bind_some, none_f, itv_Move.j0, of_f]
  have e : ∀ p : IP, (p.1 == 1 && p.2 == 0) = isN p := fun _ => rfl
  rw [e]
  split
  · rfl
  · split
    · rfl
    · split
      · next h => rw [if_pos (of_decide_eq_true h)]
      · next hc1 h => rw [if_neg (by simpa using h), w64 (x := (pl a b).1 + c) (by simp at h; omega) (by omega), w64 (x := (pl a b).2 + c) (by simp at h; omega) (by omega)]
end Go.Proofs.YtkailfmehmgolaaDoor.ItvEv

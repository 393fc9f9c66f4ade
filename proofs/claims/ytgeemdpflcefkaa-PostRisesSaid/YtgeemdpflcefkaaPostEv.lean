import Derived.Test.YtgeemdpflcefkaaYx8
import Derived.Test.YtgeemdpflcefkaaYx10
import Derived.Test.YtgeemdpflcefkaaYx11
import Derived.Test.YtgeemdpflcefkaaYx12
import Derived.Test.YtgeemdpflcefkaaYx15
import Derived.Test.YtgeemdpflcefkaaYx26
import Derived.Test.YtgeemdpflcefkaaYx28
import Derived.Test.YtgeemdpflcefkaaYx29
import Derived.Test.YtgeemdpflcefkaaYx32
import Derived.Test.YtgeemdpflcefkaaYx33
import Derived.Test.YtgeemdpflcefkaaYx34
import Derived.Test.YtgeemdpflcefkaaYx35
import Derived.Test.YtgeemdpflcefkaaPostBase
set_option linter.unusedVariables false
set_option linter.unusedSimpArgs false
/- chapter 14: what is behind a statement, by the program and by the reference -/
namespace Go.Proofs.Ytgeemdpflcefkaa.DbmEv
open Go.RowKit Go.Proofs.Ytgeemdpflcefkaa.Y Go.Proofs.YtgeemdpflcefkaaW.PrintWords Go.Proofs.YtgeemdpflcefkaaW.PrintLast Go.Proofs.Ytgeemdpflcefkaa.DbmMath
theorem ev_lives14 : Ev (fun k => warrantorlaw14_lives.f k) true := Ev.ofMono warrantorlaw14_lives.mono (K := 150) (by decide +kernel)
theorem refIs_f (a : Int) : warrantorref06_Is.f a = some (inR a) := by
  unfold warrantorref06_Is.f inR
  split
  · next h => simp [show (-1099511627776 : Int) ≤ a from h]
  · next h => simp [show ¬ (-1099511627776 : Int) ≤ a from h]
theorem is_f (a : Int) : val_Is.f a = some (inR a) := by
  unfold val_Is.f val_Clip.f
  rw [mx_eq, mn_eq]
  simp only [Option.bind_some]
  congr 1
  apply Bool.eq_iff_iff.2
  rw [beq_iff_eq, inR_iff]
  omega
theorem some_f (a b : Int) : prog_some.f a b = some (decide (0 ≤ a ∧ a ≤ b)) := by
  unfold prog_some.f
  by_cases h : a ≥ 0
  · rw [if_pos h]; simp [show 0 ≤ a from h]
  · rw [if_neg h, decide_eq_false (fun h2 => h h2.1)]
theorem one_f (a b : Int) : prog_one.f a b = some (decide (1 ≤ a ∧ a ≤ b)) := by
  unfold prog_one.f
  by_cases h : a ≥ 1
  · rw [if_pos h]; simp [show 1 ≤ a from h]
  · rw [if_neg h, decide_eq_false (fun h2 => h h2.1)]
/-- A right statement of so many variables. -/
def right (k x y c d n : Int) : Prop :=
  (0 ≤ n ∧ n ≤ 8) ∧ ((k = 1 ∧ x = 0 ∧ y = 0 ∧ c = 0 ∧ d = 0) ∨ (k = 2 ∧ (1 ≤ x ∧ x ≤ n) ∧ (0 ≤ y ∧ y ≤ n) ∧ (-1099511627776 ≤ c ∧ c ≤ 1099511627776) ∧ d = 0) ∨
    (k = 3 ∧ (1 ≤ x ∧ x ≤ n) ∧ y = 0 ∧ (-1099511627776 ≤ c ∧ c ≤ 1099511627776) ∧ (-1099511627776 ≤ d ∧ d ≤ 1099511627776) ∧ c ≤ d) ∨
    ((k = 4 ∨ k = 5) ∧ (0 ≤ x ∧ x ≤ n) ∧ (0 ≤ y ∧ y ≤ n) ∧ ¬ x = y ∧ (-1099511627776 ≤ c ∧ c ≤ 1099511627776) ∧ d = 0))
instance (k x y c d n : Int) : Decidable (right k x y c d n) := by unfold right; infer_instance
theorem right_f (k x y c d n : Int) : prog_Right.f k x y c d n = some (decide (right k x y c d n)) := by
  unfold prog_Right.f prog_kinds_1.f prog_kinds_2.f prog_kinds_3.f prog_kinds_4.f
  simp only [some_f, one_f, is_f, Option.bind_some]
  repeat' split
  all_goals (try (exfalso; simp only [decide_eq_true_eq, inR_iff] at *; omega))
  all_goals (congr 1; apply Bool.eq_iff_iff.2; simp only [decide_eq_true_eq, inR_iff, Bool.and_eq_true, beq_iff_eq, Bool.false_eq_true, false_iff] at *; unfold right; omega)
set_option maxHeartbeats 4000000 in
theorem ev_right1 {k x y c d n : Int} (h0 : 0 ≤ n) (h8 : n ≤ 8) : Ev (fun q => warrantorref11_Right.j1 q (decide (1 ≤ x ∧ x ≤ n)) (decide (1 ≤ y ∧ y ≤ n)) (inR c) k x y c d) (decide (right k x y c d n)) := by
  refine Ev.succ (fun k => by rw [warrantorref11_Right.j1]) ?_
  simp only [refIs_f, Option.bind_some]
  by_cases k1 : k = 1
  · simp only [if_pos k1]
    refine Ev.const ?_
    congr 1; apply Bool.eq_iff_iff.2
    simp only [decide_eq_true_eq, Bool.and_eq_true, beq_iff_eq]
    unfold right; omega
  · simp only [if_neg k1]
    by_cases k2 : k = 2
    · simp only [if_pos k2]
      refine Ev.const ?_
      repeat' split
      all_goals (congr 1; apply Bool.eq_iff_iff.2; simp only [decide_eq_true_eq, inR_iff, beq_iff_eq, Bool.false_eq_true, false_iff] at *; unfold right; omega)
    · simp only [if_neg k2]
      by_cases k3 : k = 3
      · simp only [if_pos k3]
        refine Ev.const ?_
        repeat' split
        all_goals (congr 1; apply Bool.eq_iff_iff.2; simp only [decide_eq_true_eq, inR_iff, beq_iff_eq, Bool.false_eq_true, false_iff] at *; unfold right; omega)
      · simp only [if_neg k3]
        by_cases k4 : k = 4
        · simp only [if_pos k4]
          refine Ev.const ?_
          repeat' split
          all_goals (congr 1; apply Bool.eq_iff_iff.2; simp only [decide_eq_true_eq, inR_iff, beq_iff_eq, Bool.false_eq_true, false_iff] at *; unfold right; omega)
        · simp only [if_neg k4]
          by_cases k5 : k = 5
          · simp only [if_pos k5]
            refine Ev.const ?_
            repeat' split
            all_goals (congr 1; apply Bool.eq_iff_iff.2; simp only [decide_eq_true_eq, inR_iff, beq_iff_eq, Bool.false_eq_true, false_iff] at *; unfold right; omega)
          · simp only [if_neg k5]
            refine Ev.const ?_
            rw [decide_eq_false (fun h : right k x y c d n => by unfold right at h; omega)]
theorem ev_refRight (k x y c d n : Int) : Ev (fun q => warrantorref11_Right.f q k x y c d n) (decide (right k x y c d n)) := by
  unfold warrantorref11_Right.f
  have no : ¬ (0 ≤ n ∧ n ≤ 8) → Ev (fun q => warrantorref11_Right.j0 q n true k x y c d) (decide (right k x y c d n)) := by
    intro h
    refine Ev.succ (fun k => by rw [warrantorref11_Right.j0]) ?_
    simp only [if_pos]
    refine Ev.const ?_
    rw [decide_eq_false (fun h2 : right k x y c d n => h h2.1)]
  by_cases h1 : n < 0
  · simp only [if_pos h1]; exact no (by omega)
  · simp only [if_neg h1]
    by_cases h2 : n > 8
    · simp only [decide_eq_true h2]; exact no (by omega)
    · simp only [decide_eq_false h2]
      have key := ev_right1 (k := k) (x := x) (y := y) (c := c) (d := d) (n := n) (by omega) (by omega)
      refine Ev.succ (fun k => by rw [warrantorref11_Right.j0]) ?_
      simp only [if_neg Bool.false_ne_true, refIs_f, Option.bind_some]
      by_cases hx : x ≥ 1 <;> by_cases hy : y ≥ 1
      · have e1 : decide (1 ≤ x ∧ x ≤ n) = decide (x ≤ n) := by simp [show 1 ≤ x from hx]
        have e2 : decide (1 ≤ y ∧ y ≤ n) = decide (y ≤ n) := by simp [show 1 ≤ y from hy]
        simp only [if_pos hx, if_pos hy]; rw [e1, e2] at key; exact key
      · have e1 : decide (1 ≤ x ∧ x ≤ n) = decide (x ≤ n) := by simp [show 1 ≤ x from hx]
        have e2 : decide (1 ≤ y ∧ y ≤ n) = false := decide_eq_false (fun h => hy h.1)
        simp only [if_pos hx, if_neg hy]; rw [e1, e2] at key; exact key
      · have e1 : decide (1 ≤ x ∧ x ≤ n) = false := decide_eq_false (fun h => hx h.1)
        have e2 : decide (1 ≤ y ∧ y ≤ n) = decide (y ≤ n) := by simp [show 1 ≤ y from hy]
        simp only [if_neg hx, if_pos hy]; rw [e1, e2] at key; exact key
      · have e1 : decide (1 ≤ x ∧ x ≤ n) = false := decide_eq_false (fun h => hx h.1)
        have e2 : decide (1 ≤ y ∧ y ≤ n) = false := decide_eq_false (fun h => hy h.1)
        simp only [if_neg hx, if_neg hy]; rw [e1, e2] at key; exact key
def chk (a : Int) (xs : List Int) (k x y c d : Int) : Int := if isZone a xs = true then (if right k x y c d a then 0 else 111) else 80
theorem ev_pcheck (a : Int) (xs : List Int) (k x y c d : Int) : Ev (fun q => post_check.f q a xs k x y c d) (chk a xs k x y c d) := by
  unfold post_check.f
  refine Ev.bind (ev_Check a xs) ?_
  unfold chk
  by_cases h : isZone a xs = true
  · simp only [if_pos h, if_pos, right_f, Option.bind_some]
    by_cases hr : right k x y c d a
    · simp only [decide_eq_true hr, if_pos, if_pos hr]; exact Ev.const rfl
    · simp only [decide_eq_false hr, if_neg Bool.false_ne_true, if_neg hr]; exact Ev.const rfl
  · simp only [if_neg h, if_neg (show ¬ (80 : Int) = 0 by decide)]
    exact Ev.const rfl
theorem ev_rcheck (a : Int) (xs : List Int) (k x y c d : Int) (hl : xs.length ≤ 200) : Ev (fun q => warrantorref14_Check.f q a xs k x y c d) (chk a xs k x y c d) := by
  unfold warrantorref14_Check.f
  refine Ev.bind (ev_refCheck a xs hl) ?_
  unfold chk
  by_cases h : isZone a xs = true
  · simp only [h, if_pos]
    refine Ev.bind (ev_refRight _ _ _ _ _ _) ?_
    by_cases hr : right k x y c d a
    · simp only [decide_eq_true hr, if_pos, if_pos hr]; exact Ev.const rfl
    · simp only [decide_eq_false hr, if_neg Bool.false_ne_true, if_neg hr]; exact Ev.const rfl
  · simp only [h, if_neg Bool.false_ne_true]
    exact Ev.const rfl
theorem chk_zero {a : Int} {xs : List Int} {k x y c d : Int} (h : chk a xs k x y c d = 0) : isZone a xs = true ∧ right k x y c d a := by
  unfold chk at h
  split at h
  · next h1 =>
    split at h
    · next h2 => exact ⟨h1, h2⟩
    · exact absurd h (by decide)
  · exact absurd h (by decide)
theorem zp_self {xs : List Int} (p : Nat) (h : xs.length = p) : zp mn xs xs p = xs := by
  subst h
  apply List.ext_getElem (by rw [zp_len])
  intro i h1 h2
  have e : (zp mn xs xs xs.length)[i] = mn (rd xs (i : Int)) (rd xs (i : Int)) := by simp only [zp, List.getElem_map, List.getElem_range]
  rw [e, mn_eq, rd_get h2]
  omega
theorem meet_self {n : Nat} {xs : List Int} (hz : isZone (n : Int) xs = true) : (if xs = [] ∨ xs = [] then [] else closeT n (zp mn xs xs ((n + 1) * (n + 1)))) = xs := by
  obtain ⟨hn, hx⟩ := zone_len hz
  rcases hx with hx | ⟨h0, hl, hC⟩
  · rw [if_pos (.inl hx), hx]
  · rw [if_neg (by simp [h0]), zp_self _ hl]
    rcases closeT_cases hl with ⟨_, hD⟩ | ⟨a, _, hD⟩
    · exact absurd hC.2.1 (hD _ hC.1)
    · exact list_eq a hl (hD.unique hC)
def postZ (n : Nat) (xs : List Int) (k : Int) (x y : Nat) (c d : Int) : List Int :=
  if k = 1 then xs else if k = 2 then letZ n xs x y c else if k = 3 then limZ n (limZ n (freeZ n xs x) x 0 d) 0 x (-c) else limZ n xs x y c
theorem closeT_zone {n : Nat} (hn : n ≤ 8) {zs : List Int} (hl : zs.length = (n + 1) * (n + 1)) : isZone (n : Int) (closeT n zs) = true := by
  rcases closeT_cases hl with ⟨a, _⟩ | ⟨a, _, hD⟩
  · rw [a]; exact isZone_nil hn
  · exact (closure_zone hn a (cut_le n zs) hD).2.2
theorem limZ_zone {n : Nat} (hn : n ≤ 8) {xs : List Int} (h : xs = [] ∨ xs.length = (n + 1) * (n + 1)) (i j : Nat) (c : Int) : isZone (n : Int) (limZ n xs i j c) = true := by
  unfold limZ
  split
  · exact isZone_nil hn
  · next h0 => exact closeT_zone hn (by rw [limitL_len]; exact h.resolve_left h0)
theorem freeZ_zone {n : Nat} (hn : n ≤ 8) {xs : List Int} (h : xs = [] ∨ xs.length = (n + 1) * (n + 1)) (i : Nat) : isZone (n : Int) (freeZ n xs i) = true := by
  unfold freeZ
  split
  · exact isZone_nil hn
  · next h0 => exact closeT_zone hn (by rw [free_len]; exact h.resolve_left h0)
theorem letZ_zone {n : Nat} (hn : n ≤ 8) {xs : List Int} (h : xs = [] ∨ xs.length = (n + 1) * (n + 1)) (i j : Nat) (c : Int) : isZone (n : Int) (letZ n xs i j c) = true := by
  unfold letZ
  split
  · exact isZone_nil hn
  · split
    · split
      · exact isZone_nil hn
      · next h0 => exact closeT_zone hn (by rw [move_len]; exact h.resolve_left h0)
    · exact limZ_zone hn (limZ_fit (freeZ_fit h i) i j c) j i _
theorem postZ_zone {n : Nat} {xs : List Int} (hz : isZone (n : Int) xs = true) (k : Int) (x y : Nat) (c d : Int) : isZone (n : Int) (postZ n xs k x y c d) = true := by
  obtain ⟨hn, hx⟩ := zone_fit hz
  unfold postZ
  split
  · exact hz
  · split
    · exact letZ_zone hn hx x y c
    · split
      · exact limZ_zone hn (limZ_fit (freeZ_fit hx x) x 0 d) 0 x _
      · exact limZ_zone hn hx x y c
theorem ev_Post {n : Nat} {xs : List Int} (hz : isZone (n : Int) xs = true) {k c d : Int} {x y : Nat} (hr : right k (x : Int) (y : Int) c d (n : Int)) : Ev (fun q => post_Post.f q (n : Int) xs k (x : Int) (y : Int) c d) ((n : Int), postZ n xs k x y c d, 0) := by
  obtain ⟨hn, hx⟩ := zone_fit hz
  unfold post_Post.f
  refine Ev.bind (ev_pcheck _ _ _ _ _ _ _) ?_
  have e : chk (n : Int) xs k (x : Int) (y : Int) c d = 0 := by unfold chk; rw [if_pos hz, if_pos hr]
  simp only [e, if_pos]
  unfold postZ
  obtain ⟨_, hr⟩ := hr
  by_cases k1 : k = 1
  · simp only [if_pos k1]
    unfold post_skip.f
    refine Ev.bind (ev_Meet hz hz) ?_
    rw [meet_self hz]
    exact Ev.const rfl
  · simp only [if_neg k1]
    by_cases k2 : k = 2
    · simp only [if_pos k2]
      unfold post_let.f
      exact Ev.bind (ev_Let hz (show x ≤ n by omega) (by omega) (show y ≤ n by omega) c) (Ev.const rfl)
    · simp only [if_neg k2]
      by_cases k3 : k = 3
      · simp only [if_pos k3]
        unfold post_take.f
        refine Ev.bind (ev_Forget hz (show x ≤ n by omega) (by omega)) ?_
        refine Ev.bind (ev_Limit (freeZ_zone hn hx x) (show x ≤ n by omega) (j := 0) (Nat.zero_le _) d) ?_
        simp only [w64 (x := -c) (by omega) (by omega)]
        exact Ev.bind (ev_Limit (limZ_zone hn (freeZ_fit hx x) x 0 d) (i := 0) (Nat.zero_le _) (show x ≤ n by omega) (-c)) (Ev.const rfl)
      · simp only [if_neg k3]
        have lim : Ev (fun q => post_limit.f q (n : Int) xs k (x : Int) (y : Int) c d) ((n : Int), limZ n xs x y c, 0) := by
          unfold post_limit.f
          exact Ev.bind (ev_Limit hz (show x ≤ n by omega) (show y ≤ n by omega) c) (Ev.const rfl)
        by_cases k4 : k = 4
        · simp only [if_pos k4]; exact lim
        · simp only [if_neg k4, if_pos (show k = 5 by omega)]; exact lim
theorem right_nat {k x y c d : Int} {n : Nat} (hr : right k x y c d (n : Int)) : ∃ p q : Nat, x = p ∧ y = q := by
  obtain ⟨_, hr⟩ := hr
  exact ⟨x.toNat, y.toNat, by omega, by omega⟩
end Go.Proofs.Ytgeemdpflcefkaa.DbmEv

/- chapter 08: what the program's functions tell, in plain words -/
import Derived.Test.YtgeemdpflcefkaaZx3
import Derived.Test.YtgeemdpflcefkaaZx7
import Derived.Test.YtgeemdpflcefkaaZx8
import Derived.Test.YtgeemdpflcefkaaDbmEv
set_option linter.unusedVariables false
set_option linter.unusedSimpArgs false
namespace Go.Proofs.Ytgeemdpflcefkaa.DbmEv
open Go.RowKit Go.Proofs.Ytgeemdpflcefkaa.Z Go.Proofs.YtgeemdpflcefkaaW.PrintWords Go.Proofs.YtgeemdpflcefkaaW.PrintLast Go.Proofs.Ytgeemdpflcefkaa.DbmMath

theorem Ev.ofMono {α} {g : Nat → Option α} {r : α} (hm : ∀ k, LeO (g k) (g (k + 1))) {K : Nat} (h : g K = some r) : Ev g r :=
  ⟨K, fun k hk => by
    obtain ⟨m, rfl⟩ : ∃ m, k = K + m := ⟨k - K, by omega⟩
    clear hk
    induction m with
    | zero => exact h
    | succ m ih => exact hm _ _ ih⟩
/-- A loop that asks one after the other, and ends at the first no. -/
theorem Ev.loopAll {l : Nat → Nat → Option Bool} {P : Nat → Bool} {rest : Bool} {N : Nat} (hend : Ev (fun k => l k N) rest)
    (hgo : ∀ i s, i < N → P i = true → Ev (fun k => l k (i + 1)) s → Ev (fun k => l k i) s) (hno : ∀ i, i < N → P i = false → Ev (fun k => l k i) false) :
    ∀ m i, i + m = N → Ev (fun k => l k i) ((List.range' i m).all P && rest)
  | 0, i, h => by
    have : i = N := by omega
    subst this
    simpa using hend
  | m + 1, i, h => by
    have ih := Ev.loopAll hend hgo hno m (i + 1) (by omega)
    rw [List.range'_succ, List.all_cons]
    cases hp : P i with
    | false => simpa using hno i (by omega) hp
    | true => simpa using hgo i _ (by omega) hp ih
theorem succ_nat (i : Nat) (h : i ≤ 4611686018427387904) : wrap64 ((i : Int) + 1) = ((i + 1 : Nat) : Int) := by rw [w64 (by omega) (by omega)]; omega
theorem rd_get {xs : List Int} {i : Nat} (h : i < xs.length) : rd xs (i : Int) = xs[i] := by
  rw [rd_nat, List.getD_eq_getElem?_getD, List.getElem?_eq_getElem h, Option.getD_some]

theorem equal_loop (xs ys : List Int) (hx : xs.length ≤ 4611686018427387904) (hl : xs.length = ys.length) : Ev (fun k => slices_Equal_int_int.l0 k xs ys (xs.length : Int) 0) (decide (xs = ys)) := by
  have h := Ev.loopAll (l := fun k i => slices_Equal_int_int.l0 k xs ys (xs.length : Int) (i : Int)) (P := fun i => decide (rd xs i = rd ys i)) (rest := true) (N := xs.length) ?_ ?_ ?_ xs.length 0 (by omega)
  · have e : ((List.range' 0 xs.length).all (fun i => decide (rd xs i = rd ys i)) && true) = decide (xs = ys) := by
      rw [Bool.and_true]
      apply Bool.eq_iff_iff.2
      rw [List.all_eq_true, decide_eq_true_eq]
      constructor
      · intro h
        apply List.ext_getElem hl
        intro i h1 h2
        have := h i (List.mem_range'_1.2 ⟨by omega, by omega⟩)
        rw [decide_eq_true_eq, rd_get h1, rd_get h2] at this
        exact this
      · rintro rfl i _
        simp
    rw [e] at h
    exact h
  · refine Ev.succ (fun k => by rw [slices_Equal_int_int.l0]) ?_
    simp only [if_neg (Int.lt_irrefl _)]
    exact Ev.const rfl
  · intro i s hi hp hs
    refine Ev.succ (fun k => by rw [slices_Equal_int_int.l0]) ?_
    simp only [if_pos (show (i : Int) < (xs.length : Int) by omega), if_pos (show (0 : Int) ≤ (i : Int) by omega), if_pos (show (i : Int) < (ys.length : Int) by omega), if_pos (of_decide_eq_true hp), succ_nat i (by omega)]
    exact hs
  · intro i hi hp
    refine Ev.succ (fun k => by rw [slices_Equal_int_int.l0]) ?_
    simp only [if_pos (show (i : Int) < (xs.length : Int) by omega), if_pos (show (0 : Int) ≤ (i : Int) by omega), if_pos (show (i : Int) < (ys.length : Int) by omega), if_neg (of_decide_eq_false hp)]
    exact Ev.const rfl
theorem ev_Same (a b : Int) (xs ys : List Int) (hx : xs.length ≤ 4611686018427387904) : Ev (fun k => dbm_Same.f k a xs b ys) (decide (a = b ∧ xs = ys)) := by
  unfold dbm_Same.f
  by_cases hab : a = b
  · simp only [if_pos hab, Option.bind_fun_some]
    unfold slices_Equal_int_int.f
    by_cases hl : xs.length = ys.length
    · simp only [if_pos (show (xs.length : Int) = (ys.length : Int) by omega)]
      simpa [hab] using equal_loop xs ys hx hl
    · simp only [if_neg (show ¬ (xs.length : Int) = (ys.length : Int) by omega)]
      refine Ev.const ?_
      have : ¬ xs = ys := fun h => hl (by rw [h])
      simp [this]
  · simp only [if_neg hab]
    exact Ev.const (by simp [hab])

def vars (a : Int) : Bool := decide (0 ≤ a ∧ a ≤ 8)
theorem vars_f (a : Int) : dbm_vars.f a = some (vars a) := by
  unfold dbm_vars.f vars
  split
  · next h => simp [show (0 : Int) ≤ a from h]
  · next h => simp [show ¬ (0 : Int) ≤ a from h]
def fits (a : Int) (xs : List Int) : Bool := vars a && decide (xs.length = (a.toNat + 1) * (a.toNat + 1))
theorem size_eq {a : Int} (h : vars a = true) : wrap64 ((wrap64 (a + 1)) * (wrap64 (a + 1))) = (((a.toNat + 1) * (a.toNat + 1) : Nat) : Int) := by
  have h2 := of_decide_eq_true h
  obtain ⟨n, rfl⟩ := Int.eq_ofNat_of_zero_le h2.1
  have hn : n ≤ 8 := by omega
  rw [w64 (x := (n : Int) + 1) (by omega) (by omega)]
  have e : ((n : Int) + 1) * ((n : Int) + 1) = (((n + 1) * (n + 1) : Nat) : Int) := by simp only [Int.natCast_mul, Int.natCast_add, Int.natCast_one]
  rw [e]
  have : (n + 1) * (n + 1) ≤ 9 * 9 := Nat.mul_le_mul (by omega) (by omega)
  rw [w64 (by omega) (by omega)]
  simp
def closeR (a : Int) (xs : List Int) : Int × List Int × Int :=
  if fits a xs = true then (a, if closeOk a.toNat xs = true then closeTo a.toNat xs (a.toNat + 1) else [], 0) else (0, [], 1)
theorem size_le {n : Nat} (h : n ≤ 8) : (n + 1) * (n + 1) ≤ 81 := Nat.mul_le_mul (by omega : n + 1 ≤ 9) (by omega : n + 1 ≤ 9)
theorem fits_n {a : Int} {xs : List Int} (h : fits a xs = true) : ∃ n : Nat, a = n ∧ n ≤ 8 ∧ xs.length = (n + 1) * (n + 1) := by
  unfold fits vars at h
  rw [Bool.and_eq_true, decide_eq_true_eq, decide_eq_true_eq] at h
  obtain ⟨⟨h1, h2⟩, h3⟩ := h
  obtain ⟨n, rfl⟩ := Int.eq_ofNat_of_zero_le h1
  exact ⟨n, rfl, by omega, by simpa using h3⟩
theorem fits_of {n : Nat} {xs : List Int} (hn : n ≤ 8) (hl : xs.length = (n + 1) * (n + 1)) : fits (n : Int) xs = true := by
  unfold fits vars
  rw [Bool.and_eq_true, decide_eq_true_eq, decide_eq_true_eq]
  exact ⟨⟨by omega, by omega⟩, by simpa using hl⟩
theorem ev_Close (a : Int) (xs : List Int) : Ev (fun k => dbm_Close.f k a xs) (closeR a xs) := by
  unfold dbm_Close.f
  simp only [vars_f, Option.bind_some]
  by_cases hv : vars a = true
  · simp only [if_pos hv, dbm_size.f, Option.bind_some, size_eq hv]
    refine Ev.succ (fun k => by rw [dbm_Close.j0]) ?_
    by_cases hl : xs.length = (a.toNat + 1) * (a.toNat + 1)
    · have hf : fits a xs = true := by unfold fits; simp [hv, hl]
      obtain ⟨n, rfl, hn, hln⟩ := fits_n hf
      have hs := size_le hn
      have e1 : ((xs.length : Int) != (((Int.toNat (n : Int) + 1) * (Int.toNat (n : Int) + 1) : Nat) : Int)) = false := by rw [bne_eq_false_iff_eq]; omega
      have e2 : slices_Clone_int_int.f xs = some xs := by unfold slices_Clone_int_int.f; simp; omega
      have e3 : dbm_grid_close.f (n : Int) xs = some (closeOk n xs, closeTo n xs (n + 1)) := by
        unfold dbm_grid_close.f
        rw [if_pos ⟨by omega, by omega, by simpa using hln⟩]; rfl
      simp only [e1, e2, e3, if_neg Bool.false_ne_true, Option.bind_some]
      unfold closeR
      rw [if_pos hf]
      by_cases hc : closeOk n xs = true
      · simp only [Int.toNat_natCast, if_pos hc]; exact Ev.const rfl
      · simp only [Int.toNat_natCast, if_neg hc]; exact Ev.const rfl
    · have e1 : ((xs.length : Int) != (((a.toNat + 1) * (a.toNat + 1) : Nat) : Int)) = true := by rw [bne_iff_ne]; omega
      simp only [e1, if_pos]
      unfold closeR fits
      simp only [hl, decide_false, Bool.and_false, if_neg Bool.false_ne_true]
      exact Ev.const rfl
  · simp only [if_neg hv]
    refine Ev.succ (fun k => by rw [dbm_Close.j0]) ?_
    simp only [if_pos]
    unfold closeR fits
    simp only [Bool.eq_false_iff.2 hv, Bool.false_and, if_neg Bool.false_ne_true]
    exact Ev.const rfl

/-! ### zones -/
/-- A zone: nothing, or its own closure. -/
def isZone (a : Int) (xs : List Int) : Bool := vars a && (decide (xs = []) || decide (fits a xs = true ∧ closeOk a.toNat xs = true ∧ closeTo a.toNat xs (a.toNat + 1) = xs))
theorem closeR_len (a : Int) (xs : List Int) : (closeR a xs).2.1.length ≤ 81 := by
  unfold closeR
  by_cases hf : fits a xs = true
  · obtain ⟨n, rfl, hn, hln⟩ := fits_n hf
    have := size_le hn
    rw [if_pos hf]
    simp only [Int.toNat_natCast]
    split
    · rw [closeTo_length]; omega
    · simp
  · rw [if_neg hf]; simp
theorem ev_Check (a : Int) (xs : List Int) : Ev (fun k => dbm_Check.f k a xs) (if isZone a xs = true then 0 else 80) := by
  unfold dbm_Check.f
  simp only [vars_f, Option.bind_some]
  have hC := ev_Close a xs
  by_cases h0 : (vars a && decide (xs = [])) = true
  · rw [Bool.and_eq_true, decide_eq_true_eq] at h0
    obtain ⟨hv, rfl⟩ := h0
    simp only [if_pos hv]
    refine Ev.succ (fun k => by rw [dbm_Check.j0]) ?_
    refine Ev.const ?_
    simp [isZone, hv]
  · have key : Ev (fun k => dbm_Check.j0 k false a xs) (if isZone a xs = true then 0 else 80) := by
      refine Ev.succ (fun k => by rw [dbm_Check.j0]) ?_
      simp only [if_neg Bool.false_ne_true]
      refine Ev.bind hC ?_
      by_cases hf : fits a xs = true
      · have e : (closeR a xs).2.2 = 0 := by unfold closeR; rw [if_pos hf]
        simp only [if_pos e]
        refine Ev.bind (ev_Same _ _ _ _ (by have := closeR_len a xs; omega)) ?_
        have hv : vars a = true := by unfold fits at hf; rw [Bool.and_eq_true] at hf; exact hf.1
        have hx : ¬ xs = [] := fun h => h0 (by simp [hv, h])
        have e2 : ((closeR a xs).1 = a ∧ (closeR a xs).2.1 = xs) ↔ isZone a xs = true := by
          unfold closeR isZone
          rw [if_pos hf]
          simp only [hv, hx, hf, decide_false, Bool.false_or, Bool.true_and, decide_eq_true_eq, true_and]
          constructor
          · intro h
            split at h
            · next hc => exact ⟨hc, h⟩
            · exact absurd h.symm hx
          · rintro ⟨h1, h2⟩
            rw [if_pos h1]; exact h2
        by_cases hz : isZone a xs = true
        · simp only [e2, hz, decide_true, if_pos]
          exact Ev.const rfl
        · simp only [e2, hz, decide_false, if_neg Bool.false_ne_true]
          exact Ev.const rfl
      · have e : (closeR a xs).2.2 = 1 := by unfold closeR; rw [if_neg hf]
        simp only [e, if_neg (show ¬ (1 : Int) = 0 by decide)]
        refine Ev.const ?_
        have : isZone a xs = false := by
          unfold isZone
          cases hv : vars a with
          | false => simp
          | true =>
            have hx : ¬ xs = [] := fun h => h0 (by simp [hv, h])
            simp [hx, hf]
        simp [this]
    by_cases hv : vars a = true
    · have e : ((xs.length : Int) == 0) = false := by
        have hx : ¬ xs = [] := fun h => h0 (by simp [hv, h])
        rw [beq_eq_false_iff_ne]
        intro h
        exact hx (List.eq_nil_of_length_eq_zero (by omega))
      simp only [if_pos hv, e]
      exact key
    · simp only [if_neg hv]
      exact key
end Go.Proofs.Ytgeemdpflcefkaa.DbmEv

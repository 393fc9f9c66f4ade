/- chapter 08: what a zone has, and what a matrix has -/
import Derived.Test.YtgeemdpflcefkaaZx3
import Derived.Test.YtgeemdpflcefkaaDbmProg
set_option linter.unusedVariables false
set_option linter.unusedSimpArgs false
namespace Go.Proofs.Ytgeemdpflcefkaa.DbmEv
open Go.RowKit Go.Proofs.Ytgeemdpflcefkaa.Z Go.Proofs.YtgeemdpflcefkaaW.PrintWords Go.Proofs.YtgeemdpflcefkaaW.PrintLast Go.Proofs.Ytgeemdpflcefkaa.DbmMath
theorem Ev.loop {l : Nat → Nat → Option Bool} {P : Nat → Bool} {rest : Bool} {N : Nat} (hend : (∀ j, j < N → P j = true) → Ev (fun k => l k N) rest)
    (hgo : ∀ i s, i < N → (∀ j, j < i → P j = true) → P i = true → Ev (fun k => l k (i + 1)) s → Ev (fun k => l k i) s) (hno : ∀ i, i < N → (∀ j, j < i → P j = true) → P i = false → Ev (fun k => l k i) false) :
    ∀ m i, i + m = N → (∀ j, j < i → P j = true) → Ev (fun k => l k i) ((List.range' i m).all P && rest)
  | 0, i, h, hj => by
    have : i = N := by omega
    subst this
    simpa using hend hj
  | m + 1, i, h, hj => by
    rw [List.range'_succ, List.all_cons]
    cases hp : P i with
    | false => simpa using hno i (by omega) hj hp
    | true =>
      have ih := Ev.loop hend hgo hno m (i + 1) (by omega) (fun j hji => by
        rcases Nat.lt_or_ge j i with h1 | h1
        · exact hj j h1
        · have : j = i := by omega
          rw [this]; exact hp)
      simpa using hgo i _ (by omega) hj hp ih
theorem Ev.loop0 {l : Nat → Nat → Option Bool} {P : Nat → Bool} {rest : Bool} {N : Nat} (hend : (∀ j, j < N → P j = true) → Ev (fun k => l k N) rest)
    (hgo : ∀ i s, i < N → (∀ j, j < i → P j = true) → P i = true → Ev (fun k => l k (i + 1)) s → Ev (fun k => l k i) s) (hno : ∀ i, i < N → (∀ j, j < i → P j = true) → P i = false → Ev (fun k => l k i) false) :
    Ev (fun k => l k 0) ((List.range' 0 N).all P && rest) := Ev.loop hend hgo hno N 0 (by omega) (fun j h => absurd h (by omega))
theorem Ev.loopNo {l : Nat → Nat → Option Bool} {P : Nat → Bool} {N : Nat}
    (hgo : ∀ i s, i < N → (∀ j, j < i → P j = true) → P i = true → Ev (fun k => l k (i + 1)) s → Ev (fun k => l k i) s) (hno : ∀ i, i < N → (∀ j, j < i → P j = true) → P i = false → Ev (fun k => l k i) false) :
    ∀ m i, i + m = N → (∀ j, j < i → P j = true) → (List.range' i m).all P = false → Ev (fun k => l k i) false
  | 0, i, h, hj, hf => by simp at hf
  | m + 1, i, h, hj, hf => by
    rw [List.range'_succ, List.all_cons] at hf
    cases hp : P i with
    | false => exact hno i (by omega) hj hp
    | true =>
      rw [hp, Bool.true_and] at hf
      exact hgo i _ (by omega) hj hp (Ev.loopNo hgo hno m (i + 1) (by omega) (fun j hji => by
        rcases Nat.lt_or_ge j i with h1 | h1
        · exact hj j h1
        · have : j = i := by omega
          rw [this]; exact hp) hf)
theorem all0 {N : Nat} {P : Nat → Bool} : (List.range' 0 N).all P = true ↔ ∀ i, i < N → P i = true := by
  rw [List.all_eq_true]
  exact ⟨fun h i hi => h i (List.mem_range'_1.2 ⟨by omega, by omega⟩), fun h i hi => h i (by have := List.mem_range'_1.1 hi; omega)⟩
theorem grid_at (n : Nat) (hn : n ≤ 8) (xs : List Int) (i j : Nat) (hi : i ≤ n) (hj : j ≤ n) : dbm_grid_at.f (n : Int) xs (i : Int) (j : Int) = some ((i * (n + 1) + j : Nat) : Int) := by
  unfold dbm_grid_at.f
  have h1 : i * (n + 1) ≤ 8 * 9 := Nat.mul_le_mul (by omega) (by omega)
  rw [w64 (x := (n : Int) + 1) (by omega) (by omega)]
  have e : (i : Int) * ((n : Int) + 1) = ((i * (n + 1) : Nat) : Int) := by simp only [Int.natCast_mul, Int.natCast_add, Int.natCast_one]
  rw [e, w64 (x := ((i * (n + 1) : Nat) : Int)) (by omega) (by omega), w64 (by omega) (by omega)]
  simp only [Int.natCast_add]

/-- The value of a variable; 0 is 0. -/
def wv (v : List Int) (i : Nat) : Int := rd (0 :: v) (i : Int)
def inR (a : Int) : Bool := decide (-1099511627776 ≤ a ∧ a ≤ 1099511627776)
theorem inR_iff {a : Int} : inR a = true ↔ -1099511627776 ≤ a ∧ a ≤ 1099511627776 := by unfold inR; rw [decide_eq_true_eq]
def holdsB (n : Nat) (m v : List Int) : Bool := (List.range' 0 n).all (fun i => inR (rd v i)) && ((List.range' 0 (n + 1)).all (fun i => (List.range' 0 (n + 1)).all fun j => decide (wv v i - wv v j ≤ at_ n m i j)) && true)
def hasB (n : Nat) (m v : List Int) : Bool := (List.range' 0 (n + 1)).all (fun i => inR (wv v i) && (List.range' 0 i).all fun j => decide (wv v i - wv v j ≤ at_ n m i j ∧ wv v j - wv v i ≤ at_ n m j i)) && true
/-- v is a valuation of m. -/
def Val (n : Nat) (m : Mat) (v : List Int) : Prop := (∀ i, i ≤ n → -1099511627776 ≤ wv v i ∧ wv v i ≤ 1099511627776) ∧ ∀ i j, i ≤ n → j ≤ n → wv v i - wv v j ≤ m i j
theorem wv_zero (v : List Int) : wv v 0 = 0 := rfl
theorem wv_succ (v : List Int) (i : Nat) : wv v (i + 1) = rd v (i : Int) := by
  unfold wv
  rw [rd_nat, rd_nat]; simp
theorem holdsB_iff {n : Nat} {m v : List Int} : holdsB n m v = true ↔ Val n (at_ n m) v := by
  unfold holdsB Val
  rw [Bool.and_true, Bool.and_eq_true, all0, all0]
  constructor
  · rintro ⟨h1, h2⟩
    refine ⟨fun i hi => ?_, fun i j hi hj => ?_⟩
    · cases i with
      | zero => rw [wv_zero]; omega
      | succ i => rw [wv_succ]; exact inR_iff.1 (h1 i (by omega))
    · have := h2 i (by omega)
      rw [all0] at this
      exact of_decide_eq_true (this j (by omega))
  · rintro ⟨h1, h2⟩
    refine ⟨fun i hi => ?_, fun i hi => ?_⟩
    · rw [← wv_succ]; exact inR_iff.2 (h1 (i + 1) (by omega))
    · rw [all0]
      exact fun j hj => decide_eq_true (h2 i j (by omega) (by omega))
theorem hasB_iff {n : Nat} {m v : List Int} (hd : ∀ i, i ≤ n → 0 ≤ at_ n m i i) : hasB n m v = true ↔ Val n (at_ n m) v := by
  unfold hasB Val
  rw [Bool.and_true, all0]
  constructor
  · intro h
    have h1 : ∀ i, i ≤ n → inR (wv v i) = true ∧ ∀ j, j < i → wv v i - wv v j ≤ at_ n m i j ∧ wv v j - wv v i ≤ at_ n m j i := by
      intro i hi
      have := h i (by omega)
      rw [Bool.and_eq_true, all0] at this
      exact ⟨this.1, fun j hj => of_decide_eq_true (this.2 j hj)⟩
    refine ⟨fun i hi => inR_iff.1 (h1 i hi).1, fun i j hi hj => ?_⟩
    rcases Nat.lt_trichotomy i j with hlt | heq | hgt
    · exact ((h1 j hj).2 i hlt).2
    · subst heq
      have := hd i hi
      omega
    · exact ((h1 i hi).2 j hgt).1
  · rintro ⟨h1, h2⟩ i hi
    rw [Bool.and_eq_true, all0]
    exact ⟨inR_iff.2 (h1 i (by omega)), fun j hj => decide_eq_true ⟨h2 i j (by omega) (by omega), h2 j i (by omega) (by omega)⟩⟩

/-! ### the reference's Holds -/
theorem ref_at (n : Nat) (hn : n ≤ 8) (i j : Nat) (hi : i ≤ n) (hj : j ≤ n) : wrap64 ((wrap64 ((i : Int) * (wrap64 ((n : Int) + 1)))) + (j : Int)) = ((i * (n + 1) + j : Nat) : Int) := by
  have := grid_at n hn [] i j hi hj
  unfold dbm_grid_at.f at this
  exact Option.some.inj this
end Go.Proofs.Ytgeemdpflcefkaa.DbmEv

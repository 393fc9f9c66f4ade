/- chapter 08: what a zone has, and what a matrix has -/
import Derived.Test.YtgbndakiiblhmaaDbmProg
namespace Go.Proofs.Ytgbndakiiblhmaa.DbmEv
open Go.RowKit Go.Proofs.Ytgbndakiiblhmaa.F Go.Proofs.YtgbndakiiblhmaaW.PrintWords Go.Proofs.YtgbndakiiblhmaaW.PrintLast Go.Proofs.Ytgbndakiiblhmaa.DbmMath
theorem Ev.loop {l : Nat → Nat → Option Bool} {P : Nat → Bool} {rest : Bool} {N : Nat} (hend : (∀ j, j < N → P j = true) → Ev (fun k => l k N) rest)
    (hgo : ∀ i s, i < N → (∀ j, j < i → P j = true) → P i = true → Ev (fun k => l k (i + 1)) s → Ev (fun k => l k i) s) (hno : ∀ i, i < N → (∀ j, j < i → P j = true) → P i = false → Ev (fun k => l k i) false) :
    ∀ m i, i + m = N → (∀ j, j < i → P j = true) → Ev (fun k => l k i) ((List.range' i m).all P && rest)
  | 0, i, h, hj => by
    have : i = N := by omega
    subst this
    simpa using hend hj
  | m + 1, i, h, hj => by
    rw [List.range'_succ, List.all_cons]
    cases hp : P i with
    | false => simpa using hno i (by omega) hj hp
    | true =>
      have ih := Ev.loop hend hgo hno m (i + 1) (by omega) (fun j hji => by
        rcases Nat.lt_or_ge j i with h1 | h1
        · exact hj j h1
        · have : j = i := by omega
          rw [this]; exact hp)
      simpa using hgo i _ (by omega) hj hp ih
theorem Ev.loop0 {l : Nat → Nat → Option Bool} {P : Nat → Bool} {rest : Bool} {N : Nat} (hend : (∀ j, j < N → P j = true) → Ev (fun k => l k N) rest)
    (hgo : ∀ i s, i < N → (∀ j, j < i → P j = true) → P i = true → Ev (fun k => l k (i + 1)) s → Ev (fun k => l k i) s) (hno : ∀ i, i < N → (∀ j, j < i → P j = true) → P i = false → Ev (fun k => l k i) false) :
    Ev (fun k => l k 0) ((List.range' 0 N).all P && rest) := Ev.loop hend hgo hno N 0 (by omega) (fun j h => absurd h (by omega))
theorem Ev.loopNo {l : Nat → Nat → Option Bool} {P : Nat → Bool} {N : Nat}
    (hgo : ∀ i s, i < N → (∀ j, j < i → P j = true) → P i = true → Ev (fun k => l k (i + 1)) s → Ev (fun k => l k i) s) (hno : ∀ i, i < N → (∀ j, j < i → P j = true) → P i = false → Ev (fun k => l k i) false) :
    ∀ m i, i + m = N → (∀ j, j < i → P j = true) → (List.range' i m).all P = false → Ev (fun k => l k i) false
  | 0, i, h, hj, hf => by simp at hf
  | m + 1, i, h, hj, hf => by
    rw [List.range'_succ, List.all_cons] at hf
    cases hp : P i with
    | false => exact hno i (by omega) hj hp
    | true =>
      rw [hp, Bool.true_and] at hf
      exact hgo i _ (by omega) hj hp (Ev.loopNo hgo hno m (i + 1) (by omega) (fun j hji => by
        rcases Nat.lt_or_ge j i with h1 | h1
        · exact hj j h1
        · have : j = i := by omega
          rw [this]; exact hp) hf)
theorem all0 {N : Nat} {P : Nat → Bool} : (List.range' 0 N).all P = true ↔ ∀ i, i < N → P i = true := by
  rw [List.all_eq_true]
  exact ⟨fun h i hi => h i (List.mem_range'_1.2 ⟨by omega, by omega⟩), fun h i hi => h i (by have := List.mem_range'_1.1 hi; omega)⟩
theorem grid_at (n : Nat) (hn : n ≤ 8) (xs : List Int) (i j : Nat) (hi : i ≤ n) (hj : j ≤ n) : dbm_grid_at.f (n : Int) xs (i : Int) (j : Int) = some ((i * (n + 1) + j : Nat) : Int) := by
  unfold dbm_grid_at.f
  have h1 : i * (n + 1) ≤ 8 * 9 := Nat.mul_le_mul (by omega) (by omega)
  rw [w64 (x := (n : Int) + 1) (by omega) (by omega)]
  have e : (i : Int) * ((n : Int) + 1) = ((i * (n + 1) : Nat) : Int) := by simp only [Int.natCast_mul, Int.natCast_add, Int.natCast_one]
  rw [e, w64 (x := ((i * (n + 1) : Nat) : Int)) (by omega) (by omega), w64 (by omega) (by omega)]
  simp only [Int.natCast_add]

/-- The value of a variable; 0 is 0. -/
def wv (v : List Int) (i : Nat) : Int := rd (0 :: v) (i : Int)
def inR (a : Int) : Bool := decide (-1099511627776 ≤ a ∧ a ≤ 1099511627776)
theorem inR_iff {a : Int} : inR a = true ↔ -1099511627776 ≤ a ∧ a ≤ 1099511627776 := by unfold inR; rw [decide_eq_true_eq]
def holdsB (n : Nat) (m v : List Int) : Bool := (List.range' 0 n).all (fun i => inR (rd v i)) && ((List.range' 0 (n + 1)).all (fun i => (List.range' 0 (n + 1)).all fun j => decide (wv v i - wv v j ≤ at_ n m i j)) && true)
def hasB (n : Nat) (m v : List Int) : Bool := (List.range' 0 (n + 1)).all (fun i => inR (wv v i) && (List.range' 0 i).all fun j => decide (wv v i - wv v j ≤ at_ n m i j ∧ wv v j - wv v i ≤ at_ n m j i)) && true
/-- v is a valuation of m. -/
def Val (n : Nat) (m : Mat) (v : List Int) : Prop := (∀ i, i ≤ n → -1099511627776 ≤ wv v i ∧ wv v i ≤ 1099511627776) ∧ ∀ i j, i ≤ n → j ≤ n → wv v i - wv v j ≤ m i j
theorem wv_zero (v : List Int) : wv v 0 = 0 := rfl
theorem wv_succ (v : List Int) (i : Nat) : wv v (i + 1) = rd v (i : Int) := by
  unfold wv
  rw [rd_nat, rd_nat]; simp
theorem holdsB_iff {n : Nat} {m v : List Int} : holdsB n m v = true ↔ Val n (at_ n m) v := by
  unfold holdsB Val
  rw [Bool.and_true, Bool.and_eq_true, all0, all0]
  constructor
  · rintro ⟨h1, h2⟩
    refine ⟨fun i hi => ?_, fun i j hi hj => ?_⟩
    · cases i with
      | zero => rw [wv_zero]; omega
      | succ i => rw [wv_succ]; exact inR_iff.1 (h1 i (by omega))
    · have := h2 i (by omega)
      rw [all0] at this
      exact of_decide_eq_true (this j (by omega))
  · rintro ⟨h1, h2⟩
    refine ⟨fun i hi => ?_, fun i hi => ?_⟩
    · rw [← wv_succ]; exact inR_iff.2 (h1 (i + 1) (by omega))
    · rw [all0]
      exact fun j hj => decide_eq_true (h2 i j (by omega) (by omega))
theorem hasB_iff {n : Nat} {m v : List Int} (hd : ∀ i, i ≤ n → 0 ≤ at_ n m i i) : hasB n m v = true ↔ Val n (at_ n m) v := by
  unfold hasB Val
  rw [Bool.and_true, all0]
  constructor
  · intro h
    have h1 : ∀ i, i ≤ n → inR (wv v i) = true ∧ ∀ j, j < i → wv v i - wv v j ≤ at_ n m i j ∧ wv v j - wv v i ≤ at_ n m j i := by
      intro i hi
      have := h i (by omega)
      rw [Bool.and_eq_true, all0] at this
      exact ⟨this.1, fun j hj => of_decide_eq_true (this.2 j hj)⟩
    refine ⟨fun i hi => inR_iff.1 (h1 i hi).1, fun i j hi hj => ?_⟩
    rcases Nat.lt_trichotomy i j with hlt | heq | hgt
    · exact ((h1 j hj).2 i hlt).2
    · subst heq
      have := hd i hi
      omega
    · exact ((h1 i hi).2 j hgt).1
  · rintro ⟨h1, h2⟩ i hi
    rw [Bool.and_eq_true, all0]
    exact ⟨inR_iff.2 (h1 i (by omega)), fun j hj => decide_eq_true ⟨h2 i j (by omega) (by omega), h2 j i (by omega) (by omega)⟩⟩

/-! ### the reference's Holds -/
theorem Is_f (a : Int) : warrantorref06_Is.f a = some (inR a) := by
  unfold warrantorref06_Is.f inR
  split
  · next h => simp [show (-1099511627776 : Int) ≤ a from h]
  · next h => simp [show ¬ (-1099511627776 : Int) ≤ a from h]
theorem at_f (v : List Int) (i : Nat) (hi : i ≤ v.length) (hv : v.length ≤ 4611686018427387904) : warrantorref08_at.f v (i : Int) = some (wv v i) := by
  unfold warrantorref08_at.f
  cases i with
  | zero => simp [wv_zero]
  | succ i =>
    have e : wrap64 (((i + 1 : Nat) : Int) - 1) = (i : Int) := by rw [w64 (by omega) (by omega)]; omega
    rw [if_neg (by omega), e, if_pos (by omega), if_pos (by omega), wv_succ]
theorem ref_at (n : Nat) (hn : n ≤ 8) (i j : Nat) (hi : i ≤ n) (hj : j ≤ n) : wrap64 ((wrap64 ((i : Int) * (wrap64 ((n : Int) + 1)))) + (j : Int)) = ((i * (n + 1) + j : Nat) : Int) := by
  have := grid_at n hn [] i j hi hj
  unfold dbm_grid_at.f at this
  exact Option.some.inj this
theorem ev_Holds {n : Nat} (hn : n ≤ 8) {m v : List Int} (hv : v.length = n) (hm : m.length = (n + 1) * (n + 1)) : Ev (fun k => warrantorref08_Holds.f k m v) (holdsB n m v) := by
  unfold warrantorref08_Holds.f
  have hs := size_le hn
  have e : wrap64 ((wrap64 ((v.length : Int) + 1)) * (wrap64 ((v.length : Int) + 1))) = (m.length : Int) := by
    rw [hv, size_eq (by unfold vars; rw [decide_eq_true_eq]; omega), hm]; simp
  simp only [e, if_pos]
  rw [hv]
  refine Ev.loop0 (l := fun k i => warrantorref08_Holds.l0 k m v (n : Int) (i : Int)) (N := n) ?_ ?_ ?_
  · intro hR
    refine Ev.succ (fun k => by rw [warrantorref08_Holds.l0]) ?_
    simp only [if_neg (Int.lt_irrefl _)]
    have hR' : ∀ i, i ≤ n → -1099511627776 ≤ wv v i ∧ wv v i ≤ 1099511627776 := by
      intro i hi
      cases i with
      | zero => rw [wv_zero]; omega
      | succ i => rw [wv_succ]; exact inR_iff.1 (hR i (by omega))
    have go2 : ∀ i j s, i ≤ n → j < n + 1 → decide (wv v i - wv v j ≤ at_ n m i j) = true → Ev (fun k => warrantorref08_Holds.l2 k m v (n : Int) (i : Int) ((j + 1 : Nat) : Int)) s → Ev (fun k => warrantorref08_Holds.l2 k m v (n : Int) (i : Int) (j : Int)) s := by
      intro i j s hi hj hp1 h
      have hp := place_lt hi (show j ≤ n by omega)
      have b1 := hR' i hi
      have b2 := hR' j (by omega)
      refine Ev.succ (fun k => by rw [warrantorref08_Holds.l2]) ?_
      simp only [if_pos (show (j : Int) ≤ (n : Int) by omega), at_f v i (by omega) (by omega), at_f v j (by omega) (by omega), Option.bind_some, ref_at n hn i j hi (by omega), if_pos (show (0 : Int) ≤ ((i * (n + 1) + j : Nat) : Int) by omega), if_pos (show ((i * (n + 1) + j : Nat) : Int) < (m.length : Int) by omega), w64 (x := wv v i - wv v j) (by omega) (by omega), succ_nat j (by omega)]
      have := of_decide_eq_true hp1
      unfold at_ at this
      simp only [if_neg (show ¬ wv v i - wv v j > rd m ((i * (n + 1) + j : Nat) : Int) by omega)]
      exact h
    have no2 : ∀ i j, i ≤ n → j < n + 1 → decide (wv v i - wv v j ≤ at_ n m i j) = false → Ev (fun k => warrantorref08_Holds.l2 k m v (n : Int) (i : Int) (j : Int)) false := by
      intro i j hi hj hp1
      have hp := place_lt hi (show j ≤ n by omega)
      have b1 := hR' i hi
      have b2 := hR' j (by omega)
      refine Ev.succ (fun k => by rw [warrantorref08_Holds.l2]) ?_
      simp only [if_pos (show (j : Int) ≤ (n : Int) by omega), at_f v i (by omega) (by omega), at_f v j (by omega) (by omega), Option.bind_some, ref_at n hn i j hi (by omega), if_pos (show (0 : Int) ≤ ((i * (n + 1) + j : Nat) : Int) by omega), if_pos (show ((i * (n + 1) + j : Nat) : Int) < (m.length : Int) by omega), w64 (x := wv v i - wv v j) (by omega) (by omega)]
      have := of_decide_eq_false hp1
      unfold at_ at this
      simp only [if_pos (show wv v i - wv v j > rd m ((i * (n + 1) + j : Nat) : Int) by omega)]
      exact Ev.const rfl
    refine Ev.loop0 (l := fun k i => warrantorref08_Holds.l1 k m v (n : Int) (i : Int)) (N := n + 1) ?_ ?_ ?_
    · intro _
      refine Ev.succ (fun k => by rw [warrantorref08_Holds.l1]) ?_
      simp only [if_neg (show ¬ ((n + 1 : Nat) : Int) ≤ (n : Int) by omega)]
      exact Ev.const rfl
    · intro i s hi _ hp h
      refine Ev.succ (fun k => by rw [warrantorref08_Holds.l1]) ?_
      simp only [if_pos (show (i : Int) ≤ (n : Int) by omega)]
      have := Ev.loop0 (l := fun k j => warrantorref08_Holds.l2 k m v (n : Int) (i : Int) (j : Int)) (N := n + 1) (P := fun j => decide (wv v i - wv v j ≤ at_ n m i j)) (rest := s) (fun _ => by
        refine Ev.succ (fun k => by rw [warrantorref08_Holds.l2]) ?_
        simp only [if_neg (show ¬ ((n + 1 : Nat) : Int) ≤ (n : Int) by omega), succ_nat i (by omega)]
        exact h) (fun j s' hj _ hp h => go2 i j s' (by omega) hj hp h) (fun j hj _ hp => no2 i j (by omega) hj hp)
      rw [hp, Bool.true_and] at this
      exact this
    · intro i hi _ hp
      refine Ev.succ (fun k => by rw [warrantorref08_Holds.l1]) ?_
      simp only [if_pos (show (i : Int) ≤ (n : Int) by omega)]
      exact Ev.loopNo (l := fun k j => warrantorref08_Holds.l2 k m v (n : Int) (i : Int) (j : Int)) (N := n + 1) (fun j s' hj _ hp h => go2 i j s' (by omega) hj hp h) (fun j hj _ hp => no2 i j (by omega) hj hp) (n + 1) 0 (by omega) (fun j h => absurd h (by omega)) hp
  · intro i s hi _ hp h
    refine Ev.succ (fun k => by rw [warrantorref08_Holds.l0]) ?_
    simp only [if_pos (show (i : Int) < (n : Int) by omega), if_pos (show (0 : Int) ≤ (i : Int) by omega), if_pos (show (i : Int) < (v.length : Int) by omega), Is_f, Option.bind_some, if_pos hp, succ_nat i (by omega)]
    exact h
  · intro i hi _ hp
    refine Ev.succ (fun k => by rw [warrantorref08_Holds.l0]) ?_
    simp only [if_pos (show (i : Int) < (n : Int) by omega), if_pos (show (0 : Int) ≤ (i : Int) by omega), if_pos (show (i : Int) < (v.length : Int) by omega), Is_f, Option.bind_some, if_neg (show ¬ inR (rd v (i : Int)) = true by rw [hp]; decide)]
    exact Ev.const rfl
end Go.Proofs.Ytgbndakiiblhmaa.DbmEv

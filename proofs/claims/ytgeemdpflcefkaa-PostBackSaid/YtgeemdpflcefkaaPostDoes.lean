import Derived.Test.YtgeemdpflcefkaaYx42
import Derived.Test.YtgeemdpflcefkaaPostHad
import Derived.Test.YtgeemdpflcefkaaPostEv
set_option linter.unusedVariables false
set_option linter.unusedSimpArgs false
/- chapter 14: what a statement does with a valuation -/
namespace Go.Proofs.Ytgeemdpflcefkaa.DbmEv
open Go.RowKit Go.Proofs.Ytgeemdpflcefkaa.Y Go.Proofs.YtgeemdpflcefkaaW.PrintWords Go.Proofs.YtgeemdpflcefkaaW.PrintLast Go.Proofs.Ytgeemdpflcefkaa.DbmMath
theorem val_congr {n : Nat} {m : Mat} {v u : List Int} (h : ∀ a, a ≤ n → wv u a = wv v a) : Val n m v ↔ Val n m u := by
  unfold Val
  constructor
  · rintro ⟨h1, h2⟩
    exact ⟨fun a ha => by rw [h a ha]; exact h1 a ha, fun a b ha hb => by rw [h a ha, h b hb]; exact h2 a b ha hb⟩
  · rintro ⟨h1, h2⟩
    exact ⟨fun a ha => by rw [← h a ha]; exact h1 a ha, fun a b ha hb => by rw [← h a ha, ← h b hb]; exact h2 a b ha hb⟩
theorem free_with {n : Nat} {xs v : List Int} (hx : xs = [] ∨ xs.length = (n + 1) * (n + 1)) (hv : v.length = n) (hp : hasP n xs v) {i : Nat} (h1 : 1 ≤ i) (hi : i ≤ n) (x : Int) : hasP n (freeZ n xs i) (withV v i x) ↔ -1099511627776 ≤ x ∧ x ≤ 1099511627776 := by
  rw [hasP_free hx hi]
  have hw := wv_with hv h1 hi x
  constructor
  · rintro ⟨_, h2, _⟩
    have := h2 i hi
    rw [hw, if_pos rfl] at this
    exact this
  · intro hr
    refine ⟨hp.1, fun a ha => ?_, fun a b ha hb hai hbi => ?_⟩
    · rw [hw]
      split
      · exact hr
      · exact hp.2.1 a ha
    · rw [hw, hw, if_neg hai, if_neg hbi]
      exact hp.2.2 a b ha hb
theorem let_with {n : Nat} {xs v : List Int} (hz : isZone (n : Int) xs = true) (hv : v.length = n) (hp : hasP n xs v) {i j : Nat} (h1 : 1 ≤ i) (hi : i ≤ n) (hj : j ≤ n) (d : Int) (hd : -1099511627776 ≤ d ∧ d ≤ 1099511627776) : hasP n (letZ n xs i j d) (withV v i (wv v j + d)) ↔ inR (wv v j + d) = true := by
  have hw := wv_with hv h1 hi (wv v j + d)
  rw [inR_iff]
  by_cases hij : i = j
  · subst hij
    rw [hasP_let_same hz (by rw [withV_len]; exact hv) h1 hi d (by omega), hw, if_pos rfl]
    have e : hasP n xs (withV (withV v i (wv v i + d)) i (wv v i + d - d)) := by
      refine ⟨hp.1, (val_congr fun a ha => ?_).1 hp.2⟩
      rw [wv_with (by rw [withV_len]; exact hv) h1 hi, hw]
      by_cases ha : a = i
      · rw [if_pos ha, ha]; omega
      · rw [if_neg ha, if_neg ha]
    exact ⟨fun h => h.1, fun h => ⟨h, e⟩⟩
  · rw [hasP_let hz hi hj hij d (by omega), free_with (zone_fit hz).2 hv hp h1 hi, hw, hw, if_pos rfl, if_neg (fun h => hij h.symm)]
    exact ⟨fun h => h.1, fun h => ⟨h, rfl⟩⟩
theorem value_f {n : Nat} {v : List Int} (hv : v.length = n) (hn : n ≤ 8) {i : Nat} (hi : i ≤ n) : warrantorref13_Value.f v (i : Int) = some (wv v i) := by
  unfold warrantorref13_Value.f
  cases i with
  | zero => simp [wv_zero]
  | succ i =>
    have e : wrap64 (((i + 1 : Nat) : Int) - 1) = (i : Int) := by rw [w64 (by omega) (by omega)]; omega
    rw [if_neg (by omega), e, if_pos (by omega), if_pos (by omega), wv_succ]
theorem with_f {n : Nat} {v : List Int} (hv : v.length = n) (hn : n ≤ 8) {i : Nat} (h1 : 1 ≤ i) (hi : i ≤ n) (x : Int) : warrantorref13_With.f v (i : Int) x = some (withV v i x) := by
  unfold warrantorref13_With.f withV
  have e : wrap64 ((i : Int) - 1) = ((i - 1 : Nat) : Int) := by rw [w64 (by omega) (by omega)]; omega
  simp only [Option.bind_some, List.length_nil, Nat.zero_add, List.nil_append, if_pos (show v.length < 17592186044416 by omega), e, if_pos (show (0 : Int) ≤ ((i - 1 : Nat) : Int) by omega), if_pos (show ((i - 1 : Nat) : Int) < (v.length : Int) by omega), Int.toNat_natCast]
def doesV (k : Int) (x y : Nat) (c d : Int) (v : List Int) (ch : Int) : List Int × Int :=
  if k = 2 then (if inR (wv v y + c) = true then (withV v x (wv v y + c), 0) else ([], 130)) else if k = 3 then (if ch < c then ([], 130) else if ch > d then ([], 130) else (withV v x ch, 0)) else
    if k = 4 then (if wv v x - wv v y > c then ([], 130) else (v, 0)) else if k = 5 then (if wv v x - wv v y > c then ([], 131) else (v, 0)) else (v, 0)
theorem does_f {n : Nat} (hn : n ≤ 8) {k c d : Int} {x y : Nat} (hr : right k (x : Int) (y : Int) c d (n : Int)) {v : List Int} (hv : v.length = n) (hR : ∀ a, a ≤ n → -1099511627776 ≤ wv v a ∧ wv v a ≤ 1099511627776) (ch : Int) : warrantorref13_Does.f k (x : Int) (y : Int) c d v ch = some (doesV k x y c d v ch) := by
  obtain ⟨_, hr⟩ := hr
  unfold warrantorref13_Does.f doesV
  have cp : v.length < 17592186044416 := by omega
  by_cases k2 : k = 2
  · have ry := hR y (by omega)
    simp only [if_pos k2, value_f hv hn (show y ≤ n by omega), Option.bind_some, w64 (x := wv v y + c) (by omega) (by omega), refIs_f, with_f hv hn (show 1 ≤ x by omega) (show x ≤ n by omega)]
    split <;> rfl
  · simp only [if_neg k2]
    by_cases k3 : k = 3
    · simp only [if_pos k3, with_f hv hn (show 1 ≤ x by omega) (show x ≤ n by omega), Option.bind_some]
      split
      · rfl
      · split <;> rfl
    · simp only [if_neg k3]
      by_cases k4 : k = 4
      · have rx := hR x (by omega)
        have ry := hR y (by omega)
        simp only [if_pos k4, value_f hv hn (show x ≤ n by omega), value_f hv hn (show y ≤ n by omega), Option.bind_some, w64 (x := wv v x - wv v y) (by omega) (by omega), List.length_nil, Nat.zero_add, if_pos cp, List.nil_append]
        split <;> rfl
      · simp only [if_neg k4]
        by_cases k5 : k = 5
        · have rx := hR x (by omega)
          have ry := hR y (by omega)
          simp only [if_pos k5, value_f hv hn (show x ≤ n by omega), value_f hv hn (show y ≤ n by omega), Option.bind_some, w64 (x := wv v x - wv v y) (by omega) (by omega), List.length_nil, Nat.zero_add, if_pos cp, List.nil_append]
          split <;> rfl
        · simp only [if_neg k5, Option.bind_some, List.length_nil, Nat.zero_add, if_pos cp, List.nil_append]
theorem hasP_fault {n : Nat} {xs v : List Int} (hz : isZone (n : Int) xs = true) (hp : hasP n xs v) {k c d : Int} {x y : Nat} (hr : right k (x : Int) (y : Int) c d (n : Int)) (ch : Int) : hasP n (faultZ n xs k x y c) v ↔ (doesV k x y c d v ch).2 = 131 := by
  obtain ⟨_, hr⟩ := hr
  unfold faultZ
  by_cases k5 : k = 5
  · rw [if_pos k5, hasP_lim (zone_fit hz).2 (show y ≤ n by omega) (show x ≤ n by omega)]
    unfold doesV
    rw [if_neg (by omega), if_neg (by omega), if_neg (by omega), if_pos k5]
    by_cases h : wv v x - wv v y > c
    · rw [if_pos h]; exact ⟨fun _ => rfl, fun _ => ⟨hp, by omega⟩⟩
    · rw [if_neg h]; exact ⟨fun h2 => absurd h2.2 (by omega), fun h2 => absurd h2 (by simp)⟩
  · rw [if_neg k5]
    refine ⟨fun h => absurd rfl h.1, fun h => ?_⟩
    unfold doesV at h
    exfalso
    revert h
    rw [if_neg k5]
    split
    · split <;> simp
    · split
      · split
        · simp
        · split <;> simp
      · split
        · split <;> simp
        · simp
theorem hasP_post45 {n : Nat} {xs v : List Int} (hz : isZone (n : Int) xs = true) (hp : hasP n xs v) {k c d : Int} {x y : Nat} (hr : right k (x : Int) (y : Int) c d (n : Int)) (hk : k = 4 ∨ k = 5) (ch : Int) : hasP n (postZ n xs k x y c d) v ↔ (doesV k x y c d v ch).2 = 0 := by
  obtain ⟨_, hr⟩ := hr
  unfold postZ
  rw [if_neg (by omega), if_neg (by omega), if_neg (by omega), hasP_lim (zone_fit hz).2 (show x ≤ n by omega) (show y ≤ n by omega)]
  unfold doesV
  rw [if_neg (by omega), if_neg (by omega)]
  by_cases h : wv v x - wv v y > c
  · rcases hk with k4 | k5
    · rw [if_pos k4, if_pos h]; exact ⟨fun h2 => absurd h2.2 (by omega), fun h2 => absurd h2 (by simp)⟩
    · rw [if_neg (by omega), if_pos k5, if_pos h]; exact ⟨fun h2 => absurd h2.2 (by omega), fun h2 => absurd h2 (by simp)⟩
  · rcases hk with k4 | k5
    · rw [if_pos k4, if_neg h]; exact ⟨fun _ => rfl, fun _ => ⟨hp, by omega⟩⟩
    · rw [if_neg (by omega), if_pos k5, if_neg h]; exact ⟨fun _ => rfl, fun _ => ⟨hp, by omega⟩⟩
theorem does_len {n : Nat} {v : List Int} (hv : v.length = n) {k c d : Int} {x y : Nat} {ch : Int} (h : (doesV k x y c d v ch).2 = 0) : (doesV k x y c d v ch).1.length = n := by
  revert h
  unfold doesV
  split
  · split
    · intro _; rw [withV_len]; exact hv
    · intro h; exact absurd h (by simp)
  · split
    · split
      · intro h; exact absurd h (by simp)
      · split
        · intro h; exact absurd h (by simp)
        · intro _; rw [withV_len]; exact hv
    · split
      · split
        · intro h; exact absurd h (by simp)
        · intro _; exact hv
      · split
        · split
          · intro h; exact absurd h (by simp)
          · intro _; exact hv
        · intro _; exact hv
theorem hasP_post {n : Nat} {xs v : List Int} (hz : isZone (n : Int) xs = true) (hv : v.length = n) (hp : hasP n xs v) {k c d : Int} {x y : Nat} (hr : right k (x : Int) (y : Int) c d (n : Int)) (hk : ¬ (k = 4 ∨ k = 5)) {ch : Int} (he : (doesV k x y c d v ch).2 = 0) : hasP n (postZ n xs k x y c d) (doesV k x y c d v ch).1 := by
  obtain ⟨hn, hx⟩ := zone_fit hz
  obtain ⟨_, hr⟩ := hr
  unfold postZ
  by_cases k1 : k = 1
  · rw [if_pos k1]
    unfold doesV
    rw [if_neg (by omega), if_neg (by omega), if_neg (by omega), if_neg (by omega)]
    exact hp
  · rw [if_neg k1]
    by_cases k2 : k = 2
    · rw [if_pos k2]
      unfold doesV at he ⊢
      rw [if_pos k2] at he ⊢
      by_cases h : inR (wv v y + c) = true
      · rw [if_pos h]
        exact (let_with hz hv hp (show 1 ≤ x by omega) (show x ≤ n by omega) (show y ≤ n by omega) c (by omega)).2 h
      · rw [if_neg h] at he; exact absurd he (by simp)
    · rw [if_neg k2, if_pos (show k = 3 by omega)]
      unfold doesV at he ⊢
      rw [if_neg k2, if_pos (show k = 3 by omega)] at he ⊢
      by_cases h1 : ch < c
      · rw [if_pos h1] at he; exact absurd he (by simp)
      · rw [if_neg h1] at he ⊢
        by_cases h2 : ch > d
        · rw [if_pos h2] at he; exact absurd he (by simp)
        · rw [if_neg h2]
          have hw := wv_with hv (show 1 ≤ x by omega) (show x ≤ n by omega) ch
          rw [hasP_lim (limZ_fit (freeZ_fit hx x) x 0 d) (Nat.zero_le _) (show x ≤ n by omega), hasP_lim (freeZ_fit hx x) (show x ≤ n by omega) (Nat.zero_le _), free_with hx hv hp (show 1 ≤ x by omega) (show x ≤ n by omega), hw, hw, if_pos rfl, if_neg (by omega), wv_zero]
          omega
end Go.Proofs.Ytgeemdpflcefkaa.DbmEv

/- chapter 08: Bound and Point of a zone that has valuations -/
import Derived.Test.YtgbndakiiblhmaaDbmHas1
namespace Go.Proofs.Ytgbndakiiblhmaa.DbmEv
open Go.RowKit Go.Proofs.Ytgbndakiiblhmaa.F Go.Proofs.YtgbndakiiblhmaaW.PrintWords Go.Proofs.YtgbndakiiblhmaaW.PrintLast Go.Proofs.Ytgbndakiiblhmaa.DbmMath
theorem odd_no {n i : Nat} (h : i ≤ n) : oddVar (n : Int) (i : Int) = false := by
  unfold oddVar
  simp; omega
theorem ev_Bound {n : Nat} (hn : n ≤ 8) {xs : List Int} (hz : isZone (n : Int) xs = true) (hx : ¬ xs = []) (hl : xs.length = (n + 1) * (n + 1)) {i j : Nat} (hi : i ≤ n) (hj : j ≤ n) :
    Ev (fun k => dbm_Bound.f k (n : Int) xs (i : Int) (j : Int)) (at_ n xs i j, true) := by
  unfold dbm_Bound.f
  refine Ev.bind (ev_some (n : Int) xs [(i : Int), (j : Int)]) ?_
  have hp := place_lt hi hj
  simp only [hz, hx, decide_false, List.any_cons, List.any_nil, odd_no hi, odd_no hj, Bool.or_false, Bool.not_false, Bool.and_true, if_pos, grid_at n hn xs i j hi hj, Option.bind_some, if_pos (show (0 : Int) ≤ ((i * (n + 1) + j : Nat) : Int) by omega), if_pos (show ((i * (n + 1) + j : Nat) : Int) < (xs.length : Int) by omega)]
  exact Ev.const rfl
/-- The first so many values of the point. -/
def pt (n : Nat) (x : Mat) (j m : Nat) : List Int := (List.range n).map fun q => if q < m then x (q + 1) j - x 0 j else 0
theorem pt_len (n : Nat) (x : Mat) (j m : Nat) : (pt n x j m).length = n := by simp [pt]
theorem pt_zero (n : Nat) (x : Mat) (j : Nat) : List.replicate n (0 : Int) = pt n x j 0 := by
  apply List.ext_getElem (by simp [pt])
  intro i h1 h2
  simp [pt]
theorem pt_set (n : Nat) (x : Mat) (j m : Nat) : (pt n x j m).set m (x (m + 1) j - x 0 j) = pt n x j (m + 1) := by
  apply List.ext_getElem (by simp [pt])
  intro i h1 h2
  by_cases h : i = m
  · subst h
    simp [pt]
  · rw [List.getElem_set_ne (by omega)]
    simp only [pt, List.getElem_map, List.getElem_range]
    by_cases h3 : i < m
    · rw [if_pos h3, if_pos (by omega)]
    · rw [if_neg h3, if_neg (by omega)]
theorem pt_wv {n : Nat} {x : Mat} {j i : Nat} (hi : i ≤ n) : wv (pt n x j n) i = x i j - x 0 j := by
  cases i with
  | zero => rw [wv_zero]; omega
  | succ i =>
    rw [wv_succ, rd_get (by rw [pt_len]; omega)]
    simp only [pt, List.getElem_map, List.getElem_range]
    rw [if_pos (by omega)]
theorem ev_Point {n : Nat} (hn : n ≤ 8) {xs : List Int} (hz : isZone (n : Int) xs = true) (hx : ¬ xs = []) (hl : xs.length = (n + 1) * (n + 1)) {j : Nat} (hj : j ≤ n) (hb : ∀ a b, a ≤ n → b ≤ n → -2199023255552 ≤ at_ n xs a b ∧ at_ n xs a b ≤ 2199023255552) :
    Ev (fun k => dbm_Point.f k (n : Int) xs (j : Int)) (pt n (at_ n xs) j n, true) := by
  unfold dbm_Point.f
  refine Ev.bind (ev_some (n : Int) xs [(j : Int)]) ?_
  have hs := size_le hn
  simp only [hz, hx, decide_false, List.any_cons, List.any_nil, odd_no hj, Bool.or_false, Bool.not_false, Bool.and_true, if_pos, if_pos (show (0 : Int) ≤ (n : Int) by omega), Int.toNat_natCast, if_pos (show n ≤ 35184372088832 by omega), Option.bind_some, List.length_replicate]
  rw [pt_zero n (at_ n xs) j]
  refine (?_ : ∀ m i, i + m = n → Ev (fun k => dbm_Point.l0 k (j : Int) (pt n (at_ n xs) j i) (n : Int) (i : Int) (n : Int) xs (n : Int) xs) (pt n (at_ n xs) j n, true)) n 0 (by omega)
  intro m
  induction m with
  | zero =>
    intro i h
    have : i = n := by omega
    subst this
    refine Ev.succ (fun k => by rw [dbm_Point.l0]) ?_
    simp only [if_neg (Int.lt_irrefl _)]
    exact Ev.const rfl
  | succ m ih =>
    intro i h
    have p1 := place_lt (show i + 1 ≤ n by omega) hj
    have p2 := place_lt (show 0 ≤ n by omega) hj
    have b1 := hb (i + 1) j (by omega) hj
    have b2 := hb 0 j (by omega) hj
    have e1 : rd xs (((i + 1) * (n + 1) + j : Nat) : Int) = at_ n xs (i + 1) j := rfl
    have e2 : rd xs ((0 * (n + 1) + j : Nat) : Int) = at_ n xs 0 j := rfl
    have g2 := grid_at n hn xs 0 j (by omega) hj
    refine Ev.succ (fun k => by rw [dbm_Point.l0]) ?_
    simp only [if_pos (show (i : Int) < (n : Int) by omega), succ_nat i (by omega), grid_at n hn xs (i + 1) j (by omega) hj, Option.bind_some, if_pos (show (0 : Int) ≤ (((i + 1) * (n + 1) + j : Nat) : Int) by omega), if_pos (show (((i + 1) * (n + 1) + j : Nat) : Int) < (xs.length : Int) by omega)]
    rw [show (fun k => (dbm_grid_at.f (n : Int) xs 0 (j : Int)).bind _) = fun k => (some ((0 * (n + 1) + j : Nat) : Int)).bind _ from by funext k; rw [← g2]; rfl]
    simp only [Option.bind_some, if_pos (show (0 : Int) ≤ ((0 * (n + 1) + j : Nat) : Int) by omega), if_pos (show ((0 * (n + 1) + j : Nat) : Int) < (xs.length : Int) by omega), if_pos (show (0 : Int) ≤ (i : Int) by omega), pt_len, if_pos (show (i : Int) < (n : Int) by omega), e1, e2, w64 (x := at_ n xs (i + 1) j - at_ n xs 0 j) (by omega) (by omega), Int.toNat_natCast, pt_set]
    exact ih (i + 1) (by omega)
theorem ev_Point_none (a : Int) (j : Int) : Ev (fun k => dbm_Point.f k a [] j) ([], false) := by
  unfold dbm_Point.f
  refine Ev.bind (ev_some a [] [j]) ?_
  simp only [decide_true, Bool.not_true, Bool.and_false, Bool.false_and, if_neg Bool.false_ne_true]
  exact Ev.const rfl
/-- The point is a valuation of the closure. -/
theorem pt_val {n : Nat} {c D : Mat} (h : IsClosure n c D) (hc : ∀ i j, c i j ≤ far i j) {j : Nat} (hj : j ≤ n) : Val n D (pt n D j n) := by
  have hf : ∀ i, far i 0 ≤ 1099511627776 ∧ far 0 i ≤ 1099511627776 := by
    intro i
    unfold far
    by_cases h1 : i = 0
    · subst h1; simp
    · simp [h1, Ne.symm h1]
  refine ⟨fun i hi => ?_, fun i k hi hk => ?_⟩
  · rw [pt_wv hi]
    have h1 := h.1.1 i j 0 hi hj (by omega)
    have h2 := h.1.1 0 j i (by omega) hj hi
    have h3 := Int.le_trans (h.2.1 i 0 hi (by omega)) (hc i 0)
    have h4 := Int.le_trans (h.2.1 0 i (by omega) hi) (hc 0 i)
    have := hf i
    omega
  · rw [pt_wv hi, pt_wv hk]
    have h1 := h.1.1 i j k hi hj hk
    omega
end Go.Proofs.Ytgbndakiiblhmaa.DbmEv

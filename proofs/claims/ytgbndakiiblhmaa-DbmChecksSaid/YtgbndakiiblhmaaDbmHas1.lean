/- chapter 08: dbm.Has, the closure as a zone, and what DbmHas asks -/
import Derived.Test.YtgbndakiiblhmaaDbmHas0
namespace Go.Proofs.Ytgbndakiiblhmaa.DbmEv
open Go.RowKit Go.Proofs.Ytgbndakiiblhmaa.F Go.Proofs.YtgbndakiiblhmaaW.PrintWords Go.Proofs.YtgbndakiiblhmaaW.PrintLast Go.Proofs.Ytgbndakiiblhmaa.DbmMath
theorem rd_take {w : List Int} {i j : Nat} (h : j < i) : rd (w.take i) (j : Int) = rd w (j : Int) := by
  rw [rd_nat, rd_nat, List.getD_eq_getElem?_getD, List.getD_eq_getElem?_getD, List.getElem?_take_of_lt h]
theorem ev_Has {n : Nat} (hn : n ≤ 8) {xs v : List Int} (hz : isZone (n : Int) xs = true) (hx : ¬ xs = []) (hxl : xs.length = (n + 1) * (n + 1)) (hv : v.length = n) : Ev (fun k => dbm_Has.f k (n : Int) xs v) (hasB n xs v) := by
  unfold dbm_Has.f
  have hs := size_le hn
  refine Ev.bind (ev_some (n : Int) xs []) ?_
  simp only [hz, hx, decide_false, List.any_nil, Bool.not_false, Bool.and_true, if_pos, hv, bne_self_eq_false]
  refine Ev.succ (fun k => by rw [dbm_Has.j0]) ?_
  have e2 : slices_Clone_int_int.f v = some v := by unfold slices_Clone_int_int.f; simp; omega
  have e3 : slices_Insert_int_int.f v 0 [0] = some (0 :: v) := by
    unfold slices_Insert_int_int.f
    rw [if_pos ⟨rfl, rfl, by omega⟩]; rfl
  simp only [if_neg Bool.false_ne_true, e2, e3, Option.bind_some]
  have hl : ((0 :: v).length : Int) = ((n + 1 : Nat) : Int) := by rw [List.length_cons, hv]
  rw [hl]
  have hw : ∀ i, rd (0 :: v) (i : Nat) = wv v i := fun i => rfl
  have go1 : ∀ i j s, i ≤ n → j < i → (∀ j, j < i → inR (wv v j) = true) → inR (wv v i) = true → decide (wv v i - wv v j ≤ at_ n xs i j ∧ wv v j - wv v i ≤ at_ n xs j i) = true →
      Ev (fun k => dbm_Has.l1 k (0 :: v) (i : Int) (wv v i) (0 :: v) ((n + 1 : Nat) : Int) (i : Int) ((0 :: v).take i) (i : Int) ((j + 1 : Nat) : Int) (n : Int) xs (n : Int) xs) s → Ev (fun k => dbm_Has.l1 k (0 :: v) (i : Int) (wv v i) (0 :: v) ((n + 1 : Nat) : Int) (i : Int) ((0 :: v).take i) (i : Int) (j : Int) (n : Int) xs (n : Int) xs) s := by
    intro i j s hi hj hR hRi hp h
    have b1 := inR_iff.1 hRi
    have b2 := inR_iff.1 (hR j hj)
    have p1 := place_lt hi (show j ≤ n by omega)
    have p2 := place_lt (show j ≤ n by omega) hi
    have := of_decide_eq_true hp
    unfold at_ at this
    have ht : ((0 :: v).take i).length = i := by rw [List.length_take, List.length_cons]; omega
    refine Ev.succ (fun k => by rw [dbm_Has.l1]) ?_
    simp only [if_pos (show (j : Int) < (i : Int) by omega), if_pos (show (0 : Int) ≤ (j : Int) by omega), ht, grid_at n hn xs i j hi (by omega), grid_at n hn xs j i (by omega) hi, Option.bind_some, if_pos (show (0 : Int) ≤ ((i * (n + 1) + j : Nat) : Int) by omega), if_pos (show ((i * (n + 1) + j : Nat) : Int) < (xs.length : Int) by omega), if_pos (show (0 : Int) ≤ ((j * (n + 1) + i : Nat) : Int) by omega), if_pos (show ((j * (n + 1) + i : Nat) : Int) < (xs.length : Int) by omega), rd_take hj, hw, w64 (x := wv v i - wv v j) (by omega) (by omega), w64 (x := wv v j - wv v i) (by omega) (by omega), if_neg (show ¬ wv v i - wv v j > rd xs ((i * (n + 1) + j : Nat) : Int) by omega), if_neg (show ¬ wv v j - wv v i > rd xs ((j * (n + 1) + i : Nat) : Int) by omega), succ_nat j (by omega)]
    exact h
  have no1 : ∀ i j, i ≤ n → j < i → (∀ j, j < i → inR (wv v j) = true) → inR (wv v i) = true → decide (wv v i - wv v j ≤ at_ n xs i j ∧ wv v j - wv v i ≤ at_ n xs j i) = false →
      Ev (fun k => dbm_Has.l1 k (0 :: v) (i : Int) (wv v i) (0 :: v) ((n + 1 : Nat) : Int) (i : Int) ((0 :: v).take i) (i : Int) (j : Int) (n : Int) xs (n : Int) xs) false := by
    intro i j hi hj hR hRi hp
    have b1 := inR_iff.1 hRi
    have b2 := inR_iff.1 (hR j hj)
    have p1 := place_lt hi (show j ≤ n by omega)
    have p2 := place_lt (show j ≤ n by omega) hi
    have := of_decide_eq_false hp
    unfold at_ at this
    have ht : ((0 :: v).take i).length = i := by rw [List.length_take, List.length_cons]; omega
    refine Ev.succ (fun k => by rw [dbm_Has.l1]) ?_
    simp only [if_pos (show (j : Int) < (i : Int) by omega), if_pos (show (0 : Int) ≤ (j : Int) by omega), ht, grid_at n hn xs i j hi (by omega), grid_at n hn xs j i (by omega) hi, Option.bind_some, if_pos (show (0 : Int) ≤ ((i * (n + 1) + j : Nat) : Int) by omega), if_pos (show ((i * (n + 1) + j : Nat) : Int) < (xs.length : Int) by omega), if_pos (show (0 : Int) ≤ ((j * (n + 1) + i : Nat) : Int) by omega), if_pos (show ((j * (n + 1) + i : Nat) : Int) < (xs.length : Int) by omega), rd_take hj, hw, w64 (x := wv v i - wv v j) (by omega) (by omega), w64 (x := wv v j - wv v i) (by omega) (by omega)]
    by_cases h1 : wv v i - wv v j > rd xs ((i * (n + 1) + j : Nat) : Int)
    · simp only [if_pos h1]; exact Ev.const rfl
    · simp only [if_neg h1, if_pos (show wv v j - wv v i > rd xs ((j * (n + 1) + i : Nat) : Int) by omega)]; exact Ev.const rfl
  have stp : ∀ i, i ≤ n → inR (wv v i) = true → ∀ s, Ev (fun k => dbm_Has.l1 k (0 :: v) (i : Int) (wv v i) (0 :: v) ((n + 1 : Nat) : Int) (i : Int) ((0 :: v).take i) (i : Int) 0 (n : Int) xs (n : Int) xs) s → Ev (fun k => dbm_Has.l0 k (0 :: v) (0 :: v) ((n + 1 : Nat) : Int) (i : Int) (n : Int) xs (n : Int) xs) s := by
    intro i hi hR s h
    have b := inR_iff.1 hR
    refine Ev.succ (fun k => by rw [dbm_Has.l0]) ?_
    simp only [if_pos (show (i : Int) < ((n + 1 : Nat) : Int) by omega), if_pos (show (0 : Int) ≤ (i : Int) by omega), hl, hw, if_neg (show ¬ wv v i > 1099511627776 by omega), decide_eq_false (show ¬ wv v i < -1099511627776 by omega)]
    refine Ev.succ (fun k => by rw [dbm_Has.j2]) ?_
    have ht : ((0 :: v).take i).length = i := by rw [List.length_take, List.length_cons]; omega
    simp only [if_neg Bool.false_ne_true, if_pos (show (0 : Int) ≤ (i : Int) by omega), hl, if_pos (show (i : Int) ≤ ((n + 1 : Nat) : Int) by omega), Option.bind_some, Int.toNat_natCast, ht]
    exact h
  refine Ev.loop0 (l := fun k i => dbm_Has.l0 k (0 :: v) (0 :: v) ((n + 1 : Nat) : Int) (i : Int) (n : Int) xs (n : Int) xs) (N := n + 1) ?_ ?_ ?_
  · intro _
    refine Ev.succ (fun k => by rw [dbm_Has.l0]) ?_
    simp only [if_neg (Int.lt_irrefl _)]
    exact Ev.const rfl
  · intro i s hi hj hp h
    rw [Bool.and_eq_true] at hp
    have hR : ∀ j, j < i → inR (wv v j) = true := fun j hji => by
      have := hj j hji
      rw [Bool.and_eq_true] at this; exact this.1
    refine stp i (by omega) hp.1 s ?_
    have := Ev.loop0 (l := fun k j => dbm_Has.l1 k (0 :: v) (i : Int) (wv v i) (0 :: v) ((n + 1 : Nat) : Int) (i : Int) ((0 :: v).take i) (i : Int) (j : Int) (n : Int) xs (n : Int) xs) (N := i) (P := fun j => decide (wv v i - wv v j ≤ at_ n xs i j ∧ wv v j - wv v i ≤ at_ n xs j i)) (rest := s) (fun _ => by
      refine Ev.succ (fun k => by rw [dbm_Has.l1]) ?_
      simp only [if_neg (Int.lt_irrefl _), succ_nat i (by omega)]
      exact h) (fun j s' hji _ hp' h' => go1 i j s' (by omega) hji hR hp.1 hp' h') (fun j hji _ hp' => no1 i j (by omega) hji hR hp.1 hp')
    rw [hp.2, Bool.true_and] at this
    exact this
  · intro i hi hj hp
    have hR : ∀ j, j < i → inR (wv v j) = true := fun j hji => by
      have := hj j hji
      rw [Bool.and_eq_true] at this; exact this.1
    cases hRi : inR (wv v i) with
    | true =>
      rw [hRi, Bool.true_and] at hp
      refine stp i (by omega) hRi false ?_
      exact Ev.loopNo (l := fun k j => dbm_Has.l1 k (0 :: v) (i : Int) (wv v i) (0 :: v) ((n + 1 : Nat) : Int) (i : Int) ((0 :: v).take i) (i : Int) (j : Int) (n : Int) xs (n : Int) xs) (N := i) (fun j s' hji _ hp' h' => go1 i j s' (by omega) hji hR hRi hp' h') (fun j hji _ hp' => no1 i j (by omega) hji hR hRi hp') i 0 (by omega) (fun j h => absurd h (by omega)) hp
    | false =>
      have hb : ¬ (-1099511627776 ≤ wv v i ∧ wv v i ≤ 1099511627776) := fun h => by rw [inR_iff.2 h] at hRi; cases hRi
      refine Ev.succ (fun k => by rw [dbm_Has.l0]) ?_
      simp only [if_pos (show (i : Int) < ((n + 1 : Nat) : Int) by omega), if_pos (show (0 : Int) ≤ (i : Int) by omega), hl, hw]
      by_cases h1 : wv v i > 1099511627776
      · simp only [if_pos h1]
        refine Ev.succ (fun k => by rw [dbm_Has.j2]) ?_
        simp only [if_pos]
        exact Ev.const rfl
      · simp only [if_neg h1, decide_eq_true (show wv v i < -1099511627776 by omega)]
        refine Ev.succ (fun k => by rw [dbm_Has.j2]) ?_
        simp only [if_pos]
        exact Ev.const rfl
/-- Nothing is had by an empty zone. -/
theorem ev_Has_none (a : Int) (v : List Int) : Ev (fun k => dbm_Has.f k a [] v) false := by
  unfold dbm_Has.f
  refine Ev.bind (ev_some a [] []) ?_
  simp only [decide_true, Bool.not_true, Bool.and_false, Bool.false_and, if_neg Bool.false_ne_true]
  refine Ev.succ (fun k => by rw [dbm_Has.j0]) ?_
  simp only [if_pos]
  exact Ev.const rfl
theorem ev_lives : Ev (fun k => warrantorlaw08_lives.f k) true := Ev.ofMono warrantorlaw08_lives.mono (K := 60) (by decide +kernel)

/-! ### the closure is a zone -/
theorem closure_cut {n : Nat} {c D : Mat} (h : IsClosure n c D) (hc : ∀ i j, c i j ≤ far i j) {i j : Nat} (hi : i ≤ n) (hj : j ≤ n) : clip D i j = D i j := by
  have h1 := h.1.above h.2.1 hc hi hj
  have h2 := h.2.1 i j hi hj
  have h3 := hc i j
  unfold clip B; omega
theorem closure_zone {n : Nat} (hn : n ≤ 8) {xs : List Int} (hl : xs.length = (n + 1) * (n + 1)) {c : Mat} (hc : ∀ i j, c i j ≤ far i j) (h : IsClosure n c (at_ n xs)) : closeOk n xs = true ∧ closeTo n xs (n + 1) = xs ∧ isZone (n : Int) xs = true := by
  have h1 : IsClosure n (cut n xs) (at_ n xs) := by
    refine ⟨h.1, fun i j hi hj => ?_, fun X hX hu i j hi hj => ?_⟩
    · unfold cut; rw [closure_cut h hc hi hj]; exact Int.le_refl _
    · have := hu i j hi hj
      unfold cut at this
      rwa [closure_cut h hc hi hj] at this
  rcases prog_close hl with ⟨h2, h3⟩ | ⟨_, h3⟩
  · have e : closeTo n xs (n + 1) = xs := list_eq (by rw [closeTo_length]; exact hl) hl (h3.unique h1)
    refine ⟨h2, e, ?_⟩
    unfold isZone
    have hf := fits_of hn hl
    have hv : vars (n : Int) = true := by unfold fits at hf; rw [Bool.and_eq_true] at hf; exact hf.1
    rw [hv, Bool.true_and, Bool.or_eq_true]
    refine Or.inr (decide_eq_true ⟨hf, ?_, ?_⟩)
    · simpa using h2
    · simpa using e
  · exact absurd h3 h1.not_dead
/-! ### valuations of the matrix are those of the closure -/
def dif (v : List Int) : Mat := fun i j => wv v i - wv v j
theorem Val.closed {n : Nat} {m : Mat} {v : List Int} : Closed n (dif v) := ⟨fun i j k _ _ _ => by unfold dif; omega, fun i _ => by unfold dif; omega⟩
theorem Val.under {n : Nat} {xs v : List Int} (h : Val n (at_ n xs) v) : Under n (dif v) (cut n xs) := by
  intro i j hi hj
  have h1 := h.2 i j hi hj
  have h2 := h.1 i hi
  have h3 := h.1 j hj
  have h4 : dif v i j ≤ far i j := by
    unfold dif far
    by_cases e1 : i = j
    · rw [if_pos e1, e1]; omega
    · rw [if_neg e1]
      by_cases e2 : i = 0
      · rw [if_pos e2, e2, wv_zero]; omega
      · rw [if_neg e2]
        by_cases e3 : j = 0
        · rw [if_pos e3, e3, wv_zero]; omega
        · rw [if_neg e3]; omega
  unfold cut clip
  have : dif v i j = wv v i - wv v j := rfl
  omega
theorem val_closure {n : Nat} {xs v : List Int} {D : Mat} (hD : IsClosure n (cut n xs) D) : Val n D v ↔ Val n (at_ n xs) v := by
  constructor
  · intro h
    refine ⟨h.1, fun i j hi hj => ?_⟩
    have h1 := h.2 i j hi hj
    have h2 := hD.2.1 i j hi hj
    have h3 := hD.1.above hD.2.1 (cut_le n xs) hi hj
    unfold cut clip B at h2
    omega
  · intro h
    exact ⟨h.1, hD.2.2 _ (Val.closed (m := D)) h.under⟩
theorem dead_val {n : Nat} {xs v : List Int} (hD : Dead n (cut n xs)) : ¬ Val n (at_ n xs) v := fun h => hD _ (Val.closed (m := at_ n xs)) h.under
end Go.Proofs.Ytgbndakiiblhmaa.DbmEv

/- ZoneSteps: what is in a zone of which a variable was forgotten, or is another one now, was in it with some value. -/
import Derived.Test.YtgeemdpflcefkaaZx3
import Derived.Test.YtgeemdpflcefkaaZx4
import Derived.Test.YtgeemdpflcefkaaZx28
import Derived.Test.YtgeemdpflcefkaaZx29
import Derived.Test.YtgeemdpflcefkaaZx43
import Derived.Test.YtgeemdpflcefkaaZoneHad
import Derived.Test.YtgeemdpflcefkaaZoneDbm
set_option linter.unusedVariables false
set_option linter.unusedSimpArgs false
namespace Go.Proofs.Ytgeemdpflcefkaa.DbmEv
open Go.RowKit Go.Proofs.Ytgeemdpflcefkaa.Z Go.Proofs.YtgeemdpflcefkaaW.PrintWords Go.Proofs.YtgeemdpflcefkaaW.PrintLast Go.Proofs.Ytgeemdpflcefkaa.DbmMath
theorem ev_bound {n : Nat} (hn : n ≤ 8) {xs : List Int} (hz : isZone (n : Int) xs = true) (h0 : ¬ xs = []) (hl : xs.length = (n + 1) * (n + 1)) {a b : Nat} (ha : a ≤ n) (hb : b ≤ n) : Ev (fun q => dbm_Bound.f q (n : Int) xs (a : Int) (b : Int)) (at_ n xs a b, true) := by
  unfold dbm_Bound.f
  have hp := place_lt ha hb
  refine Ev.bind (ev_some (n : Int) xs [(a : Int), (b : Int)]) ?_
  have e : (isZone (n : Int) xs && !decide (xs = []) && ![(a : Int), (b : Int)].any (oddVar (n : Int))) = true := by
    rw [hz, decide_eq_false h0]
    simp only [List.any_cons, List.any_nil, oddVar]
    simp
    omega
  simp only [e, if_pos, grid_at n hn xs a b ha hb, Option.bind_some, if_pos (show (0 : Int) ≤ ((a * (n + 1) + b : Nat) : Int) by omega), if_pos (show ((a * (n + 1) + b : Nat) : Int) < (xs.length : Int) by omega)]
  exact Ev.const rfl
/-- The least value that the bounds of a variable let in. -/
def leastT (n : Nat) (xs v : List Int) (i : Nat) : Nat → Int
  | 0 => -1099511627776
  | k + 1 => if k = i then leastT n xs v i k else if wv v k - at_ n xs k i > leastT n xs v i k then wv v k - at_ n xs k i else leastT n xs v i k
theorem leastT_ge (n : Nat) (xs v : List Int) (i : Nat) : ∀ m k, k < m → ¬ k = i → wv v k - at_ n xs k i ≤ leastT n xs v i m
  | 0, k, h, _ => absurd h (by omega)
  | m + 1, k, h, hk => by
    have ih := leastT_ge n xs v i m k
    unfold leastT
    by_cases h1 : k = m
    · subst h1
      rw [if_neg hk]
      split <;> omega
    · have := ih (by omega) hk
      split
      · exact this
      · split <;> omega
theorem leastT_is (n : Nat) (xs v : List Int) (i : Nat) : ∀ m, leastT n xs v i m = -1099511627776 ∨ ∃ k, k < m ∧ ¬ k = i ∧ leastT n xs v i m = wv v k - at_ n xs k i
  | 0 => .inl rfl
  | m + 1 => by
    have ih := leastT_is n xs v i m
    unfold leastT
    by_cases h1 : m = i
    · rw [if_pos h1]
      rcases ih with h | ⟨k, a, b, c⟩
      · exact .inl h
      · exact .inr ⟨k, by omega, b, c⟩
    · rw [if_neg h1]
      by_cases h2 : wv v m - at_ n xs m i > leastT n xs v i m
      · rw [if_pos h2]; exact .inr ⟨m, by omega, h1, rfl⟩
      · rw [if_neg h2]
        rcases ih with h | ⟨k, a, b, c⟩
        · exact .inl h
        · exact .inr ⟨k, by omega, b, c⟩
theorem least_val {n : Nat} {xs v : List Int} (hC : IsClosure n (cut n xs) (at_ n xs)) (hv : v.length = n) {i : Nat} (h1 : 1 ≤ i) (hi : i ≤ n) (hr : ∀ a, a ≤ n → -1099511627776 ≤ wv v a ∧ wv v a ≤ 1099511627776)
    (hf : ∀ a b, a ≤ n → b ≤ n → ¬ a = i → ¬ b = i → wv v a - wv v b ≤ at_ n xs a b) : Val n (at_ n xs) (withV v i (leastT n xs v i (n + 1))) := by
  have hd : at_ n xs i i = 0 := hC.1.diag hC.2.1 (cut_le n xs) hi
  have hb := zone_bounds hC hi
  have h0 := leastT_ge n xs v i (n + 1) 0 (by omega) (by omega)
  rw [wv_zero] at h0
  have hs : ∃ k, k ≤ n ∧ ¬ k = i ∧ leastT n xs v i (n + 1) = wv v k - at_ n xs k i := by
    rcases leastT_is n xs v i (n + 1) with h | ⟨k, a, b, c⟩
    · exact ⟨0, Nat.zero_le _, by omega, by rw [wv_zero]; omega⟩
    · exact ⟨k, by omega, b, c⟩
  obtain ⟨k, hk, hki, he⟩ := hs
  have hw := wv_with hv h1 hi (leastT n xs v i (n + 1))
  have up : ∀ m, m ≤ n → ¬ m = i → leastT n xs v i (n + 1) - wv v m ≤ at_ n xs i m := by
    intro m hm hmi
    have u1 := hf k m hk hm hki hmi
    have u2 := hC.1.1 k m i hk hm hi
    omega
  have up0 := up 0 (Nat.zero_le _) (by omega)
  rw [wv_zero] at up0
  refine ⟨fun a ha => ?_, fun a b ha hb' => ?_⟩
  · rw [hw]
    split
    · omega
    · exact hr a ha
  · rw [hw, hw]
    by_cases ha1 : a = i <;> by_cases hb1 : b = i
    · rw [if_pos ha1, if_pos hb1, ha1, hb1, hd]; omega
    · rw [if_pos ha1, if_neg hb1, ha1]
      exact up b hb' hb1
    · rw [if_neg ha1, if_pos hb1, hb1]
      have := leastT_ge n xs v i (n + 1) a (by omega) ha1
      omega
    · rw [if_neg ha1, if_neg hb1]
      exact hf a b ha hb' ha1 hb1
theorem steps_two {n : Nat} {xs v : List Int} (hz : isZone (n : Int) xs = true) (hv : v.length = n) {i : Nat} (h1 : 1 ≤ i) (hi : i ≤ n) (hp : hasP n (freeZ n xs i) v) : Ev (fun k => warrantorlaw09_ZoneSteps.j2 k v (i : Int) false (n : Int) xs) true := by
  obtain ⟨hn, hx⟩ := zone_len hz
  obtain ⟨h0, hr, hf⟩ := (hasP_free (zone_fit hz).2 hi).1 hp
  obtain ⟨_, hl, hC⟩ := hx.resolve_left h0
  refine Ev.succ (fun k => by rw [warrantorlaw09_ZoneSteps.j2]) ?_
  simp only [if_neg Bool.false_ne_true]
  have key := Ev.up0 (l := fun k t => warrantorlaw09_ZoneSteps.l0 k v (i : Int) (leastT n xs v i t) (t : Int) (n : Int) xs) (N := n + 1) (r := true) ?_ ?_
  · exact key
  · refine Ev.succ (fun k => by rw [warrantorlaw09_ZoneSteps.l0]) ?_
    simp only [if_neg (show ¬ ((n + 1 : Nat) : Int) ≤ (n : Int) by omega), with_f hv hn h1 hi, Option.bind_some]
    refine Ev.bind (ev_hasZ hz (by rw [withV_len]; exact hv)) ?_
    refine Ev.const ?_
    rw [(hasZ_iff hz).2 ⟨h0, least_val hC hv h1 hi hr hf⟩]
  · intro t ht h
    refine Ev.succ (fun k => by rw [warrantorlaw09_ZoneSteps.l0]) ?_
    simp only [if_pos (show (t : Int) ≤ (n : Int) by omega)]
    refine Ev.bind (ev_bound hn hz h0 hl (show t ≤ n by omega) hi) ?_
    unfold leastT at h
    simp only [succ_nat t (by omega)]
    by_cases hti : t = i
    · simp only [if_pos (show (t : Int) = (i : Int) by omega)]
      rw [if_pos hti] at h
      exact h
    · have b1 := hr t (by omega)
      have b2 := closed_range hC (show t ≤ n by omega) hi
      simp only [if_neg (show ¬ (t : Int) = (i : Int) by omega), value_f hv hn (show t ≤ n by omega), Option.bind_some, w64 (x := wv v t - at_ n xs t i) (by omega) (by omega)]
      rw [if_neg hti] at h
      by_cases hg : wv v t - at_ n xs t i > leastT n xs v i t
      · simp only [if_pos hg] at h ⊢
        exact h
      · simp only [if_neg hg] at h ⊢
        exact h
theorem steps_one {n : Nat} {xs v : List Int} (hz : isZone (n : Int) xs = true) (hv : v.length = n) {i j : Nat} (h1 : 1 ≤ i) (hi : i ≤ n) (hj : j ≤ n) (c : Int) (hc : -2199023255552 ≤ c ∧ c ≤ 2199023255552) :
    Ev (fun k => warrantorlaw09_ZoneSteps.j1 k v (i : Int) (j : Int) (n : Int) xs (n : Int) (freeZ n xs i) (n : Int) (letZ n xs i j c)) true := by
  obtain ⟨hn, hx⟩ := zone_fit hz
  have zf := freeZ_zone hn hx i
  have zl := letZ_zone hn hx i j c
  have yes : Ev (fun k => warrantorlaw09_ZoneSteps.j2 k v (i : Int) true (n : Int) xs) true := by
    refine Ev.succ (fun k => by rw [warrantorlaw09_ZoneSteps.j2]) ?_
    simp only [if_pos]
    exact Ev.const rfl
  refine Ev.succ (fun k => by rw [warrantorlaw09_ZoneSteps.j1]) ?_
  refine Ev.bind (ev_hasZ zf hv) ?_
  cases hf : hasZ n (freeZ n xs i) v with
  | true =>
    simp only [if_pos]
    exact steps_two hz hv h1 hi ((hasZ_iff zf).1 hf)
  | false =>
    simp only [if_neg Bool.false_ne_true]
    by_cases hij : i = j
    · simp only [if_pos (show (i : Int) = (j : Int) by omega)]; exact yes
    · simp only [if_neg (show ¬ (i : Int) = (j : Int) by omega)]
      refine Ev.bind (ev_hasZ zl hv) ?_
      have e : hasZ n (letZ n xs i j c) v = false := (hasZ_false zl).2 fun h => (hasZ_false zf).1 hf ((hasP_let hz hi hj hij c hc).1 h).1
      simp only [e, Bool.not_false]
      exact yes
theorem steps_law {n : Nat} {xs v : List Int} (hz : isZone (n : Int) xs = true) (hv : v.length = n) {i j : Nat} (h1 : 1 ≤ i) (hi : i ≤ n) (hj : j ≤ n) {c : Int} (hc : inR c = true) :
    Ev (fun k => warrantorlaw09_ZoneSteps.j0 k v (i : Int) (j : Int) c false (n : Int) xs) true := by
  obtain ⟨hn, hx⟩ := zone_fit hz
  have hc1 := inR_iff.1 hc
  have zl := letZ_zone hn hx i j c
  have one := steps_one hz hv h1 hi hj c (by omega)
  refine Ev.succ (fun k => by rw [warrantorlaw09_ZoneSteps.j0]) ?_
  simp only [if_neg Bool.false_ne_true]
  refine Ev.bind (ev_Forget hz hi h1) ?_
  refine Ev.bind (ev_Let hz hi h1 hj c) ?_
  refine Ev.bind ev_lives09 ?_
  simp only [if_pos]
  by_cases hij : i = j
  · subst hij
    simp only [if_pos, value_f hv hn hi, Option.bind_some]
    refine Ev.bind (ev_hasZ zl hv) ?_
    simp only [Is_f, Option.bind_some]
    have out : ¬ inR (wv v i) = true → hasZ n (letZ n xs i i c) v = false := fun h => (hasZ_false zl).2 fun h2 => h (inR_iff.2 ((hasP_let_same hz hv h1 hi c (by omega)).1 h2).1)
    by_cases hb : inR (wrap64 (wv v i - c)) = true
    · simp only [hb, if_pos]
      by_cases hr : inR (wv v i) = true
      · simp only [hr, if_pos, with_f hv hn h1 hi, Option.bind_some]
        have hr1 := inR_iff.1 hr
        rw [w64 (x := wv v i - c) (by omega) (by omega)] at hb ⊢
        refine Ev.bind (ev_hasZ hz (by rw [withV_len]; exact hv)) ?_
        have e : hasZ n (letZ n xs i i c) v = hasZ n xs (withV v i (wv v i - c)) := by
          apply Bool.eq_iff_iff.2
          rw [hasZ_iff zl, hasZ_iff hz, hasP_let_same hz hv h1 hi c (by omega)]
          exact ⟨fun h => h.2, fun h => ⟨hr1, h⟩⟩
        simp only [e, bne_self_eq_false, if_neg Bool.false_ne_true]
        exact one
      · simp only [hr, if_neg Bool.false_ne_true, out hr, bne_self_eq_false]
        exact one
    · have e : hasZ n (letZ n xs i i c) v = false := by
        by_cases hr : inR (wv v i) = true
        · have hr1 := inR_iff.1 hr
          rw [w64 (x := wv v i - c) (by omega) (by omega)] at hb
          refine (hasZ_false zl).2 fun h2 => hb (inR_iff.2 ?_)
          have h3 := ((hasP_let_same hz hv h1 hi c (by omega)).1 h2).2.2.1 i hi
          rw [wv_with hv h1 hi, if_pos rfl] at h3
          exact h3
        · exact out hr
      simp only [hb, if_neg Bool.false_ne_true, e, bne_self_eq_false]
      exact one
  · simp only [if_neg (show ¬ (i : Int) = (j : Int) by omega)]
    refine Ev.bind (ev_hasZ zl hv) ?_
    cases hh : hasZ n (letZ n xs i j c) v with
    | true =>
      obtain ⟨hp, he⟩ := (hasP_let hz hi hj hij c (by omega)).1 ((hasZ_iff zl).1 hh)
      have r2 := hp.2.1 j hj
      simp only [if_pos, value_f hv hn hi, value_f hv hn hj, Option.bind_some, w64 (x := wv v j + c) (by omega) (by omega), if_pos he]
      exact one
    | false =>
      simp only [if_neg Bool.false_ne_true]
      exact one
theorem pure_ZoneSteps : warrantorlaw09_ZoneSteps.Pure := by
  intro a xs v i j c _ _ _ _ _ _ _ _ _ _
  apply Ev.get
  unfold warrantorlaw09_ZoneSteps.f warrantorref08_Large.f
  simp only [Option.bind_some]
  have big : Ev (fun k => warrantorlaw09_ZoneSteps.j0 k v i j c true a xs) true := by
    refine Ev.succ (fun k => by rw [warrantorlaw09_ZoneSteps.j0]) ?_
    simp only [if_pos, Option.bind_fun_some]
    exact ev_lives09
  by_cases g1 : (xs.length : Int) > 200
  · simp only [g1, decide_true, if_pos]; exact big
  · simp only [g1, decide_false, if_neg Bool.false_ne_true]
    by_cases g2 : (v.length : Int) > 8
    · simp only [if_pos g2]; exact big
    · simp only [if_neg g2]
      refine Ev.bind (ev_refCheck a xs (by omega)) ?_
      by_cases hz : isZone a xs = true
      · obtain ⟨n, rfl, hn⟩ := zone_nat hz
        simp only [hz, if_pos]
        by_cases g3 : (v.length : Int) = (n : Int)
        · simp only [if_pos g3, var_f, or0_f, Option.bind_some, Is_f]
          by_cases g4 : 1 ≤ i ∧ i ≤ (n : Int)
          · obtain ⟨p, rfl⟩ := Int.eq_ofNat_of_zero_le (show 0 ≤ i by omega)
            simp only [decide_eq_true g4, if_pos]
            by_cases g5 : 0 ≤ j ∧ j ≤ (n : Int)
            · obtain ⟨q, rfl⟩ := Int.eq_ofNat_of_zero_le g5.1
              simp only [decide_eq_true g5, if_pos]
              cases hc : inR c with
              | true => exact steps_law hz (by omega) (by omega) (by omega) (by omega) hc
              | false => exact big
            · simp only [decide_eq_false g5, if_neg Bool.false_ne_true]; exact big
          · simp only [decide_eq_false g4, if_neg Bool.false_ne_true]; exact big
        · simp only [if_neg g3]; exact big
      · simp only [hz, if_neg Bool.false_ne_true]; exact big
end Go.Proofs.Ytgeemdpflcefkaa.DbmEv
namespace Go.Proofs.Ytgeemdpflcefkaa.Pure
open Go.RowKit Go.Proofs.Ytgeemdpflcefkaa.Z Go.Proofs.YtgeemdpflcefkaaW.PrintWords Go.Proofs.YtgeemdpflcefkaaW.PrintLast
theorem ZoneSteps : warrantorlaw09_ZoneSteps.Pure := DbmEv.pure_ZoneSteps
end Go.Proofs.Ytgeemdpflcefkaa.Pure

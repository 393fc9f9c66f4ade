import Derived.Test.YtgeemdpflcefkaaYx3
import Derived.Test.YtgeemdpflcefkaaYx4
import Derived.Test.YtgeemdpflcefkaaYx38
import Derived.Test.YtgeemdpflcefkaaYx41
import Derived.Test.YtgeemdpflcefkaaYx42
import Derived.Test.YtgeemdpflcefkaaYx44
import Derived.Test.YtgeemdpflcefkaaYx45
import Derived.Test.YtgeemdpflcefkaaPostDoes
set_option linter.unusedVariables false
set_option linter.unusedSimpArgs false
/- PostBack: what is behind a statement is come to from something that the zone has. -/
namespace Go.Proofs.Ytgeemdpflcefkaa.DbmEv
open Go.RowKit Go.Proofs.Ytgeemdpflcefkaa.Y Go.Proofs.YtgeemdpflcefkaaW.PrintWords Go.Proofs.YtgeemdpflcefkaaW.PrintLast Go.Proofs.Ytgeemdpflcefkaa.DbmMath
theorem ev_bound {n : Nat} (hn : n ≤ 8) {xs : List Int} (hz : isZone (n : Int) xs = true) (h0 : ¬ xs = []) (hl : xs.length = (n + 1) * (n + 1)) {a b : Nat} (ha : a ≤ n) (hb : b ≤ n) : Ev (fun q => dbm_Bound.f q (n : Int) xs (a : Int) (b : Int)) (at_ n xs a b, true) := by
  unfold dbm_Bound.f
  have hp := place_lt ha hb
  refine Ev.bind (ev_some (n : Int) xs [(a : Int), (b : Int)]) ?_
  have e : (isZone (n : Int) xs && !decide (xs = []) && ![(a : Int), (b : Int)].any (oddVar (n : Int))) = true := by
    rw [hz, decide_eq_false h0]
    simp only [List.any_cons, List.any_nil, oddVar]
    simp
    omega
  simp only [e, if_pos, grid_at n hn xs a b ha hb, Option.bind_some, if_pos (show (0 : Int) ≤ ((a * (n + 1) + b : Nat) : Int) by omega), if_pos (show ((a * (n + 1) + b : Nat) : Int) < (xs.length : Int) by omega)]
  exact Ev.const rfl
/-- The least value that the bounds of a variable let in. -/
def leastT (n : Nat) (xs v : List Int) (i : Nat) : Nat → Int
  | 0 => -1099511627776
  | k + 1 => if k = i then leastT n xs v i k else if wv v k - at_ n xs k i > leastT n xs v i k then wv v k - at_ n xs k i else leastT n xs v i k
theorem leastT_ge (n : Nat) (xs v : List Int) (i : Nat) : ∀ m k, k < m → ¬ k = i → wv v k - at_ n xs k i ≤ leastT n xs v i m
  | 0, k, h, _ => absurd h (by omega)
  | m + 1, k, h, hk => by
    have ih := leastT_ge n xs v i m k
    unfold leastT
    by_cases h1 : k = m
    · subst h1
      rw [if_neg hk]
      split <;> omega
    · have := ih (by omega) hk
      split
      · exact this
      · split <;> omega
theorem leastT_is (n : Nat) (xs v : List Int) (i : Nat) : ∀ m, leastT n xs v i m = -1099511627776 ∨ ∃ k, k < m ∧ ¬ k = i ∧ leastT n xs v i m = wv v k - at_ n xs k i
  | 0 => .inl rfl
  | m + 1 => by
    have ih := leastT_is n xs v i m
    unfold leastT
    by_cases h1 : m = i
    · rw [if_pos h1]
      rcases ih with h | ⟨k, a, b, c⟩
      · exact .inl h
      · exact .inr ⟨k, by omega, b, c⟩
    · rw [if_neg h1]
      by_cases h2 : wv v m - at_ n xs m i > leastT n xs v i m
      · rw [if_pos h2]; exact .inr ⟨m, by omega, h1, rfl⟩
      · rw [if_neg h2]
        rcases ih with h | ⟨k, a, b, c⟩
        · exact .inl h
        · exact .inr ⟨k, by omega, b, c⟩
theorem least_val {n : Nat} {xs v : List Int} (hC : IsClosure n (cut n xs) (at_ n xs)) (hv : v.length = n) {i : Nat} (h1 : 1 ≤ i) (hi : i ≤ n) (hr : ∀ a, a ≤ n → -1099511627776 ≤ wv v a ∧ wv v a ≤ 1099511627776)
    (hf : ∀ a b, a ≤ n → b ≤ n → ¬ a = i → ¬ b = i → wv v a - wv v b ≤ at_ n xs a b) : Val n (at_ n xs) (withV v i (leastT n xs v i (n + 1))) := by
  have hd : at_ n xs i i = 0 := hC.1.diag hC.2.1 (cut_le n xs) hi
  have hb := zone_bounds hC hi
  have h0 := leastT_ge n xs v i (n + 1) 0 (by omega) (by omega)
  rw [wv_zero] at h0
  have hs : ∃ k, k ≤ n ∧ ¬ k = i ∧ leastT n xs v i (n + 1) = wv v k - at_ n xs k i := by
    rcases leastT_is n xs v i (n + 1) with h | ⟨k, a, b, c⟩
    · exact ⟨0, Nat.zero_le _, by omega, by rw [wv_zero]; omega⟩
    · exact ⟨k, by omega, b, c⟩
  obtain ⟨k, hk, hki, he⟩ := hs
  have hw := wv_with hv h1 hi (leastT n xs v i (n + 1))
  have up : ∀ m, m ≤ n → ¬ m = i → leastT n xs v i (n + 1) - wv v m ≤ at_ n xs i m := by
    intro m hm hmi
    have u1 := hf k m hk hm hki hmi
    have u2 := hC.1.1 k m i hk hm hi
    omega
  have up0 := up 0 (Nat.zero_le _) (by omega)
  rw [wv_zero] at up0
  refine ⟨fun a ha => ?_, fun a b ha hb' => ?_⟩
  · rw [hw]
    split
    · omega
    · exact hr a ha
  · rw [hw, hw]
    by_cases ha1 : a = i <;> by_cases hb1 : b = i
    · rw [if_pos ha1, if_pos hb1, ha1, hb1, hd]; omega
    · rw [if_pos ha1, if_neg hb1, ha1]
      exact up b hb' hb1
    · rw [if_neg ha1, if_pos hb1, hb1]
      have := leastT_ge n xs v i (n + 1) a (by omega) ha1
      omega
    · rw [if_neg ha1, if_neg hb1]
      exact hf a b ha hb' ha1 hb1
theorem with_self {n : Nat} {v : List Int} (hv : v.length = n) {i : Nat} (h1 : 1 ≤ i) (hi : i ≤ n) (x : Int) : withV (withV v i x) i (wv v i) = v := by
  unfold withV
  rw [List.set_set]
  have h : wv v i = v[i - 1]'(by omega) := by
    obtain ⟨j, rfl⟩ : ∃ j, i = j + 1 := ⟨i - 1, by omega⟩
    rw [wv_succ, rd_get (by omega)]; rfl
  rw [h, List.set_getElem_self]
theorem same_self (u : List Int) (hu : u.length ≤ 8) : Ev (fun q => warrantorref13_Same.f q 0 u 0 u) true := by
  unfold warrantorref13_Same.f
  simp only [if_pos, bne_self_eq_false]
  refine Ev.succ (fun k => by rw [warrantorref13_Same.j0]) ?_
  simp only [if_neg Bool.false_ne_true]
  have key := Ev.up0 (l := fun k t => warrantorref13_Same.l0 k (t : Int) 0 u 0 u) (N := u.length) (r := true) ?_ ?_
  · exact key
  · refine Ev.succ (fun k => by rw [warrantorref13_Same.l0]) ?_
    simp only [if_neg (Int.lt_irrefl _)]
    exact Ev.const rfl
  · intro t ht h
    refine Ev.succ (fun k => by rw [warrantorref13_Same.l0]) ?_
    simp only [if_pos (show (t : Int) < (u.length : Int) by omega), if_pos (show (0 : Int) ≤ (t : Int) by omega), if_pos, succ_nat t (by omega)]
    exact h
theorem back_end {n : Nat} {xs was v : List Int} (hz : isZone (n : Int) xs = true) (hv : v.length = n) (hl : was.length = n) (hp : hasP n xs was) {k c d : Int} {x y : Nat} (hr : right k (x : Int) (y : Int) c d (n : Int)) {ch : Int} (he : doesV k x y c d was ch = (v, 0)) :
    Ev (fun q => (warrantorref13_Does.f k (x : Int) (y : Int) c d was ch).bind fun r => (dbm_Has.f q (n : Int) xs was).bind fun t => if t = true then (if r.2 = 0 then ((warrantorref13_Same.f q 0 r.1 0 v).bind fun z => some z) else none) else none) true := by
  have hn := (zone_fit hz).1
  simp only [does_f hn hr hl hp.2.1, Option.bind_some, he]
  refine Ev.bind (ev_hasZ hz hl) ?_
  simp only [(hasZ_iff hz).2 hp, if_pos]
  exact Ev.bind (same_self v (by omega)) (Ev.const rfl)
theorem back_plain {n : Nat} {xs was v : List Int} (hz : isZone (n : Int) xs = true) (hv : v.length = n) (hl : was.length = n) (hp : hasP n xs was) {k c d : Int} {x y : Nat} (hr : right k (x : Int) (y : Int) c d (n : Int)) (h3 : ¬ k = 3) (h2 : k = 2 → x = y) (he : doesV k x y c d was 0 = (v, 0)) :
    Ev (fun q => warrantorlaw14_PostBack.j2 q v was 0 (n : Int) xs k (x : Int) (y : Int) c d) true := by
  refine Ev.succ (fun k => by rw [warrantorlaw14_PostBack.j2]) ?_
  simp only [if_neg h3]
  have key : Ev (fun q => warrantorlaw14_PostBack.j3 q v was 0 false (n : Int) xs k (x : Int) (y : Int) c d) true := by
    refine Ev.succ (fun k => by rw [warrantorlaw14_PostBack.j3]) ?_
    simp only [if_neg Bool.false_ne_true]
    exact back_end hz hv hl hp hr he
  by_cases k2 : k = 2
  · simp only [if_pos k2]
    rw [show ((x : Int) != (y : Int)) = false by rw [h2 k2]; simp]
    exact key
  · simp only [if_neg k2]; exact key
theorem back_least {n : Nat} {xs v : List Int} (hz : isZone (n : Int) xs = true) (hv : v.length = n) {k c d : Int} {x y : Nat} (hr : right k (x : Int) (y : Int) c d (n : Int)) (h1 : 1 ≤ x) (hx : x ≤ n) (hp : hasP n (freeZ n xs x) v)
    (he : doesV k x y c d (withV v x (leastT n xs v x (n + 1))) (wv v x) = (v, 0)) (was : List Int) :
    Ev (fun q => warrantorlaw14_PostBack.j3 q v was 0 true (n : Int) xs k (x : Int) (y : Int) c d) true := by
  obtain ⟨hn, hxs⟩ := zone_len hz
  obtain ⟨h0, hR, hf⟩ := (hasP_free (zone_fit hz).2 hx).1 hp
  obtain ⟨_, hl, hC⟩ := hxs.resolve_left h0
  have hval := least_val hC hv h1 hx hR hf
  refine Ev.succ (fun k => by rw [warrantorlaw14_PostBack.j3]) ?_
  have e1 : wrap64 ((x : Int) - 1) = ((x - 1 : Nat) : Int) := by rw [w64 (by omega) (by omega)]; omega
  have e2 : rd v ((x - 1 : Nat) : Int) = wv v x := by
    obtain ⟨j, rfl⟩ : ∃ j, x = j + 1 := ⟨x - 1, by omega⟩
    rw [wv_succ]; rfl
  simp only [if_pos, e1, if_pos (show (0 : Int) ≤ ((x - 1 : Nat) : Int) by omega), if_pos (show ((x - 1 : Nat) : Int) < (v.length : Int) by omega), e2]
  have key := Ev.up0 (l := fun q t => warrantorlaw14_PostBack.l0 q v (wv v x) (leastT n xs v x t) (t : Int) (n : Int) xs k (x : Int) (y : Int) c d) (N := n + 1) (r := true) ?_ ?_
  · exact key
  · refine Ev.succ (fun k => by rw [warrantorlaw14_PostBack.l0]) ?_
    simp only [if_neg (show ¬ ((n + 1 : Nat) : Int) ≤ (n : Int) by omega), with_f hv hn h1 hx, Option.bind_some]
    exact back_end hz hv (by rw [withV_len]; exact hv) ⟨h0, hval⟩ hr he
  · intro t ht h
    refine Ev.succ (fun k => by rw [warrantorlaw14_PostBack.l0]) ?_
    simp only [if_pos (show (t : Int) ≤ (n : Int) by omega)]
    refine Ev.bind (ev_bound hn hz h0 hl (show t ≤ n by omega) hx) ?_
    unfold leastT at h
    simp only [succ_nat t (by omega), value_f hv hn (show t ≤ n by omega), Option.bind_some]
    by_cases hti : t = x
    · simp only [if_pos (show (t : Int) = (x : Int) by omega)]
      rw [if_pos hti] at h
      exact h
    · have b1 := hR t (by omega)
      have b2 := closed_range hC (show t ≤ n by omega) hx
      simp only [if_neg (show ¬ (t : Int) = (x : Int) by omega), w64 (x := wv v t - at_ n xs t x) (by omega) (by omega)]
      rw [if_neg hti] at h
      by_cases hg : wv v t - at_ n xs t x > leastT n xs v x t
      · simp only [if_pos hg] at h ⊢
        exact h
      · simp only [if_neg hg] at h ⊢
        exact h
theorem back_law {n : Nat} {xs v : List Int} (hz : isZone (n : Int) xs = true) (hv : v.length = n) {k c d : Int} {x y : Nat} (hr : right k (x : Int) (y : Int) c d (n : Int)) (hp : hasP n (postZ n xs k x y c d) v) :
    Ev (fun q => warrantorlaw14_PostBack.j1 q v v 0 (if k = 2 then ((x : Int) == (y : Int)) else false) (n : Int) xs k (x : Int) (y : Int) c d) true := by
  obtain ⟨hn, hx⟩ := zone_fit hz
  have hr' := hr.2
  unfold postZ at hp
  refine Ev.succ (fun k => by rw [warrantorlaw14_PostBack.j1]) ?_
  by_cases k1 : k = 1
  · rw [if_pos k1] at hp
    simp only [if_neg (show ¬ k = 2 by omega), if_neg Bool.false_ne_true]
    refine back_plain hz hv hv hp hr (by omega) (fun h => absurd h (by omega)) ?_
    unfold doesV
    rw [if_neg (by omega), if_neg (by omega), if_neg (by omega), if_neg (by omega)]
  · rw [if_neg k1] at hp
    by_cases k2 : k = 2
    · rw [if_pos k2] at hp
      simp only [if_pos k2]
      have h1 : 1 ≤ x := by omega
      have hxn : x ≤ n := by omega
      have hyn : y ≤ n := by omega
      by_cases hxy : x = y
      · subst hxy
        obtain ⟨hR, hw⟩ := (hasP_let_same hz hv h1 hxn c (by omega)).1 hp
        have e1 : wrap64 ((x : Int) - 1) = ((x - 1 : Nat) : Int) := by rw [w64 (by omega) (by omega)]; omega
        have e2 : rd v ((x - 1 : Nat) : Int) = wv v x := by
          obtain ⟨j, rfl⟩ : ∃ j, x = j + 1 := ⟨x - 1, by omega⟩
          rw [wv_succ]; rfl
        simp only [BEq.rfl, if_pos, e1, if_pos (show (0 : Int) ≤ ((x - 1 : Nat) : Int) by omega), if_pos (show ((x - 1 : Nat) : Int) < (v.length : Int) by omega), e2, w64 (x := wv v x - c) (by omega) (by omega), with_f hv hn h1 hxn, Option.bind_some]
        refine back_plain hz hv (by rw [withV_len]; exact hv) hw hr (by omega) (fun _ => rfl) ?_
        unfold doesV
        rw [if_pos k2, wv_with hv h1 hxn, if_pos rfl, show wv v x - c + c = wv v x by omega, if_pos (inR_iff.2 hR), with_self hv h1 hxn]
      · obtain ⟨hf, he⟩ := (hasP_let hz hxn hyn hxy c (by omega)).1 hp
        have hR := hf.2.1 x hxn
        rw [show ((x : Int) == (y : Int)) = false by rw [beq_eq_false_iff_ne]; omega]
        simp only [if_neg Bool.false_ne_true]
        refine Ev.succ (fun k => by rw [warrantorlaw14_PostBack.j2]) ?_
        simp only [if_neg (show ¬ k = 3 by omega), if_pos k2]
        rw [show ((x : Int) != (y : Int)) = true by rw [bne_iff_ne]; omega]
        refine back_least hz hv hr h1 hxn hf ?_ v
        unfold doesV
        have ey : wv (withV v x (leastT n xs v x (n + 1))) y = wv v y := by rw [wv_with hv h1 hxn, if_neg (fun h : y = x => hxy h.symm)]
        rw [if_pos k2, ey, ← he, if_pos (inR_iff.2 hR), with_self hv h1 hxn]
    · rw [if_neg k2] at hp
      simp only [if_neg k2, if_neg Bool.false_ne_true]
      by_cases k3 : k = 3
      · rw [if_pos k3] at hp
        have h1 : 1 ≤ x := by omega
        have hxn : x ≤ n := by omega
        rw [hasP_lim (limZ_fit (freeZ_fit hx x) x 0 d) (Nat.zero_le _) hxn, hasP_lim (freeZ_fit hx x) hxn (Nat.zero_le _), wv_zero] at hp
        obtain ⟨⟨hf, hd⟩, hc⟩ := hp
        refine Ev.succ (fun k => by rw [warrantorlaw14_PostBack.j2]) ?_
        simp only [if_pos k3]
        refine back_least hz hv hr h1 hxn hf ?_ v
        unfold doesV
        rw [if_neg k2, if_pos k3, if_neg (by omega), if_neg (by omega), with_self hv h1 hxn]
      · rw [if_neg k3, hasP_lim hx (show x ≤ n by omega) (show y ≤ n by omega)] at hp
        refine back_plain hz hv hv hp.1 hr k3 (fun h => absurd h k2) ?_
        unfold doesV
        rw [if_neg k2, if_neg k3]
        by_cases k4 : k = 4
        · rw [if_pos k4, if_neg (by omega)]
        · rw [if_neg k4, if_pos (by omega), if_neg (by omega)]
theorem pure_PostBack : warrantorlaw14_PostBack.Pure := by
  intro a xs k x y c d v _ _ _ _ _ _ _ _ _ _ _ _
  apply Ev.get
  unfold warrantorlaw14_PostBack.f warrantorref08_Large.f
  simp only [Option.bind_some]
  have big : Ev (fun q => warrantorlaw14_PostBack.j0 q v true a xs k x y c d) true := by
    refine Ev.succ (fun k => by rw [warrantorlaw14_PostBack.j0]) ?_
    simp only [if_pos, Option.bind_fun_some]
    exact ev_lives14
  by_cases g1 : (xs.length : Int) > 200
  · simp only [g1, decide_true, if_pos]; exact big
  · simp only [g1, decide_false, if_neg Bool.false_ne_true]
    by_cases g2 : (v.length : Int) > 20
    · simp only [if_pos g2]; exact big
    · simp only [if_neg g2]
      refine Ev.bind (ev_rcheck _ _ _ _ _ _ _ (by omega)) ?_
      by_cases hc : chk a xs k x y c d = 0
      · obtain ⟨hz, hr⟩ := chk_zero hc
        obtain ⟨n, rfl, hn⟩ : ∃ n : Nat, a = n ∧ n ≤ 8 := by
          obtain ⟨n, h1, h2, _⟩ := zone_cases hz
          exact ⟨n, h1, h2⟩
        obtain ⟨p, q, rfl, rfl⟩ := right_nat hr
        have zp := postZ_zone hz k p q c d
        rw [hc, show ((0 : Int) != 0) = false from rfl]
        refine Ev.succ (fun k => by rw [warrantorlaw14_PostBack.j0]) ?_
        simp only [if_neg Bool.false_ne_true]
        refine Ev.bind (ev_Post hz hr) ?_
        refine Ev.bind ev_lives14 ?_
        simp only [if_pos]
        by_cases hv : v.length = n
        · refine Ev.bind (ev_hasZ zp hv) ?_
          cases hh : hasZ n (postZ n xs k p q c d) v with
          | true =>
            have law := back_law hz hv hr ((hasZ_iff zp).1 hh)
            simp only [if_pos, if_pos (show (v.length : Int) = (n : Int) by omega), Option.bind_some, List.length_nil, Nat.zero_add, if_pos (show v.length < 17592186044416 by omega), List.nil_append]
            by_cases k2 : k = 2
            · simp only [if_pos k2] at law ⊢; exact law
            · simp only [if_neg k2] at law ⊢; exact law
          | false =>
            simp only [if_neg Bool.false_ne_true]
            exact Ev.const rfl
        · refine Ev.bind (ev_hasZ_len zp hv) ?_
          simp only [if_neg Bool.false_ne_true]
          exact Ev.const rfl
      · rw [show (chk a xs k x y c d != 0) = true by rw [bne_iff_ne]; exact hc]
        exact big
end Go.Proofs.Ytgeemdpflcefkaa.DbmEv
namespace Go.Proofs.Ytgeemdpflcefkaa.Pure
open Go.RowKit Go.Proofs.Ytgeemdpflcefkaa.Y Go.Proofs.YtgeemdpflcefkaaW.PrintWords Go.Proofs.YtgeemdpflcefkaaW.PrintLast
theorem PostBack : warrantorlaw14_PostBack.Pure := DbmEv.pure_PostBack
end Go.Proofs.Ytgeemdpflcefkaa.Pure

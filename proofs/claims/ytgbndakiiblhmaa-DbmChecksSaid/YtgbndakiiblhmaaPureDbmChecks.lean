/- Which are zones, what is told of them, whether any two are the same: the walk's pure function answers true for all inputs. -/
import Derived.Test.YtgbndakiiblhmaaFx26
import Derived.Test.YtgbndakiiblhmaaDbmPoint
import Derived.Test.YtgbndakiiblhmaaDbmRef
namespace Go.Proofs.Ytgbndakiiblhmaa.DbmEv
open Go.RowKit Go.Proofs.Ytgbndakiiblhmaa.F Go.Proofs.YtgbndakiiblhmaaW.PrintWords Go.Proofs.YtgbndakiiblhmaaW.PrintLast Go.Proofs.Ytgbndakiiblhmaa.DbmMath
theorem zone_cases {a : Int} {xs : List Int} (h : isZone a xs = true) : ∃ n : Nat, a = n ∧ n ≤ 8 ∧ (xs = [] ∨ (¬ xs = [] ∧ xs.length = (n + 1) * (n + 1) ∧ IsClosure n (cut n xs) (at_ n xs))) := by
  unfold isZone at h
  rw [Bool.and_eq_true, Bool.or_eq_true, decide_eq_true_eq, decide_eq_true_eq] at h
  obtain ⟨hv, hx⟩ := h
  by_cases h0 : xs = []
  · have hv2 := of_decide_eq_true hv
    exact ⟨a.toNat, by omega, by omega, .inl h0⟩
  · rcases hx with hx | ⟨hf, hc, he⟩
    · exact absurd hx h0
    · obtain ⟨n, rfl, hn, hl⟩ := fits_n hf
      rw [Int.toNat_natCast] at hc he
      rcases prog_close hl with ⟨_, hD⟩ | ⟨hD, _⟩
      · rw [he] at hD
        exact ⟨n, rfl, hn, .inr ⟨h0, hl, hD⟩⟩
      · rw [hD] at hc; cases hc
theorem ev_refCheck (a : Int) (xs : List Int) (hx : xs.length ≤ 200) : Ev (fun k => warrantorref08_Check.f k a xs) (isZone a xs) := by
  unfold warrantorref08_Check.f
  simp only [refVars_f, Option.bind_some]
  by_cases hv : vars a = true
  · simp only [if_pos hv]
    by_cases h0 : xs = []
    · subst h0
      refine Ev.const ?_
      unfold isZone
      rw [hv]; rfl
    · have hne : ¬ (xs.length : Int) = 0 := fun h => h0 (List.eq_nil_of_length_eq_zero (by omega))
      simp only [if_neg hne, size_eq hv]
      by_cases hl : xs.length = (a.toNat + 1) * (a.toNat + 1)
      · have hf : fits a xs = true := by unfold fits; rw [hv, decide_eq_true hl]; rfl
        obtain ⟨n, rfl, hn, hl2⟩ := fits_n hf
        rw [Int.toNat_natCast] at hl ⊢
        simp only [if_pos (show (xs.length : Int) = (((n + 1) * (n + 1) : Nat) : Int) by rw [hl])]
        refine Ev.bind (ev_refClose hn hl2) ?_
        have hcl : (if closeOk n xs = true then closeTo n xs (n + 1) else []).length ≤ 4611686018427387904 := by
          split
          · rw [closeTo_length]; omega
          · simp
        refine Ev.bind (ev_refSame _ _ _ _ hcl) ?_
        refine Ev.const ?_
        unfold isZone
        rw [hv, decide_eq_false h0, hf, Int.toNat_natCast]
        congr 1
        by_cases hc : closeOk n xs = true
        · simp [hc]
        · simp only [if_neg hc]
          have hc2 : closeOk n xs = false := by simpa using hc
          rw [hc2]
          simp
          exact fun h => h0 h
      · simp only [if_neg (show ¬ (xs.length : Int) = (((a.toNat + 1) * (a.toNat + 1) : Nat) : Int) by omega)]
        refine Ev.const ?_
        have hf : fits a xs = false := by unfold fits; rw [decide_eq_false hl, Bool.and_false]
        unfold isZone
        rw [hv, decide_eq_false h0, hf]
        simp
  · simp only [if_neg hv]
    refine Ev.const ?_
    have hv2 : vars a = false := by simpa using hv
    unfold isZone
    rw [hv2]; rfl
theorem ev_Bound_no {a : Int} {xs : List Int} {i j : Int} (h : (isZone a xs && !decide (xs = []) && !([i, j].any (oddVar a))) = false) : Ev (fun k => dbm_Bound.f k a xs i j) (0, false) := by
  unfold dbm_Bound.f
  refine Ev.bind (ev_some a xs [i, j]) ?_
  simp only [h, if_neg Bool.false_ne_true]
  exact Ev.const rfl
theorem ev_Point_no {a : Int} {xs : List Int} {j : Int} (h : (isZone a xs && !decide (xs = []) && !([j].any (oddVar a))) = false) : Ev (fun k => dbm_Point.f k a xs j) ([], false) := by
  unfold dbm_Point.f
  refine Ev.bind (ev_some a xs [j]) ?_
  simp only [h, if_neg Bool.false_ne_true]
  exact Ev.const rfl
theorem ev_Has_no {a : Int} {xs v : List Int} (h : (isZone a xs && !decide (xs = [])) = false ∨ ((v.length : Int) != a) = true) : Ev (fun k => dbm_Has.f k a xs v) false := by
  unfold dbm_Has.f
  refine Ev.bind (ev_some a xs []) ?_
  simp only [List.any_nil, Bool.not_false, Bool.and_true]
  have hj : Ev (fun k => dbm_Has.j0 k v true a xs) false := by
    refine Ev.succ (fun k => by rw [dbm_Has.j0]) ?_
    simp only [if_pos]
    exact Ev.const rfl
  rcases h with h | h
  · simp only [h, if_neg Bool.false_ne_true]
    exact hj
  · cases hz : isZone a xs && !decide (xs = []) with
    | true => simp only [if_pos, h]; exact hj
    | false => simp only [if_neg Bool.false_ne_true]; exact hj
theorem ev_Holds_nil (v : List Int) (hv : v.length ≤ 20) : Ev (fun k => warrantorref08_Holds.f k [] v) false := by
  unfold warrantorref08_Holds.f
  have e : ¬ (([] : List Int).length : Int) = wrap64 (wrap64 ((v.length : Int) + 1) * wrap64 ((v.length : Int) + 1)) := by
    rw [w64 (x := (v.length : Int) + 1) (by omega) (by omega)]
    have h1 : 0 < ((v.length : Int) + 1) * ((v.length : Int) + 1) := Int.mul_pos (by omega) (by omega)
    have h2 : ((v.length : Int) + 1) * ((v.length : Int) + 1) ≤ 21 * 21 := Int.mul_le_mul (by omega) (by omega) (by omega) (by omega)
    rw [w64 (by omega) (by omega)]
    show ¬ (0 : Int) = _
    omega
  simp only [if_neg e]
  exact Ev.const rfl
/-- What the program and the document tell of a valuation is the same. -/
theorem ev_both {a : Int} {xs v : List Int} (hz : isZone a xs = true) (hv : v.length ≤ 20) : ∃ b, Ev (fun k => dbm_Has.f k a xs v) b ∧ Ev (fun k => warrantorref08_Has.f k a xs v) b := by
  obtain ⟨n, rfl, hn, hx | ⟨hx, hl, hD⟩⟩ := zone_cases hz
  · subst hx
    refine ⟨false, ev_Has_no (.inl (by simp)), ?_⟩
    unfold warrantorref08_Has.f
    by_cases hvn : (v.length : Int) = (n : Int)
    · simp only [if_pos hvn]
      exact Ev.bind (ev_Holds_nil v hv) (Ev.const rfl)
    · simp only [if_neg hvn]
      exact Ev.const rfl
  · by_cases hvn : v.length = n
    · refine ⟨hasB n xs v, ev_Has hn hz hx hl hvn, ?_⟩
      unfold warrantorref08_Has.f
      simp only [if_pos (show (v.length : Int) = (n : Int) by omega)]
      refine Ev.bind (ev_Holds hn hvn hl) (Ev.const ?_)
      congr 1
      apply Bool.eq_iff_iff.2
      rw [holdsB_iff, hasB_iff hD.1.2]
    · refine ⟨false, ev_Has_no (.inr (by rw [bne_iff_ne]; omega)), ?_⟩
      unfold warrantorref08_Has.f
      simp only [if_neg (show ¬ (v.length : Int) = (n : Int) by omega)]
      exact Ev.const rfl
theorem ev_j3_no1 (i j x11 : Int) (x13 : List Int) (a : Int) (xs : List Int) : Ev (fun k => warrantorlaw08_DbmChecks_v1.j2 k i j x11 false x13 false a xs) true := by
  refine Ev.succ (fun k => by rw [warrantorlaw08_DbmChecks_v1.j2]) ?_
  simp only [if_neg Bool.false_ne_true]
  exact Ev.const rfl
theorem ev_j3_no2 (i j x11 : Int) (x13 : List Int) (a : Int) (xs : List Int) : Ev (fun k => warrantorlaw08_DbmChecks_v2.j2 k i j x11 false x13 false a xs) true := by
  refine Ev.succ (fun k => by rw [warrantorlaw08_DbmChecks_v2.j2]) ?_
  simp only [if_neg Bool.false_ne_true]
  exact Ev.const rfl
theorem ev_j2_no2 (i j : Int) (a : Int) (xs : List Int) : Ev (fun k => warrantorlaw08_DbmChecks_v2.j1 k i j 0 false [] false false a xs) true := by
  refine Ev.succ (fun k => by rw [warrantorlaw08_DbmChecks_v2.j1]) ?_
  simp only [bne_self_eq_false, if_neg Bool.false_ne_true, if_pos, List.length_nil]
  exact ev_j3_no2 i j 0 [] a xs
theorem same_both (a b : Int) (xs ys : List Int) (hx : xs.length ≤ 200) : ∃ s, Ev (fun k => dbm_Same.f k a xs b ys) s ∧ Ev (fun k => warrantorref08_Same.f k a xs b ys) s :=
  ⟨_, ev_Same a b xs ys (by omega), ev_refSame a b xs ys (by omega)⟩
theorem odd_yes {n : Nat} {i : Int} (h : ¬ (0 ≤ i ∧ i ≤ n)) : oddVar (n : Int) i = true := by
  unfold oddVar
  rw [Bool.or_eq_true, decide_eq_true_eq, decide_eq_true_eq]
  omega
theorem checks_in (n : Nat) (xs : List Int) (b : Int) (ys v : List Int) (i j : Int) (hx : xs.length ≤ 200) (hv : v.length ≤ 20) (hz : isZone (n : Int) xs = true) (hn : n ≤ 8) (h0 : ¬ xs = []) (hl : xs.length = (n + 1) * (n + 1)) (hD : IsClosure n (cut n xs) (at_ n xs)) (hj : 0 ≤ j ∧ j ≤ n) : Ev (fun k => warrantorlaw08_DbmChecks_v1.j0 k v i j false (n : Int) xs b ys) true := by
  refine Ev.succ (fun k => by rw [warrantorlaw08_DbmChecks_v1.j0]) ?_
  simp only [if_neg Bool.false_ne_true]
  obtain ⟨s, hs1, hs2⟩ := same_both (n : Int) b xs ys hx
  have hlpos : 0 < xs.length := List.length_pos_iff.2 h0
  have hb : ∀ a b, a ≤ n → b ≤ n → -2199023255552 ≤ at_ n xs a b ∧ at_ n xs a b ≤ 2199023255552 := fun a b ha hb =>
    ⟨hD.1.above hD.2.1 (cut_le n xs) ha hb, Int.le_trans (hD.2.1 a b ha hb) (Int.le_trans (cut_le n xs a b) (far_le a b).2)⟩
  -- the rest, whatever is told of the bound and the point
  have rest : ∀ (x11 : Int) (x12 : Bool) (x13 : List Int) (x14 : Bool), Ev (fun k => dbm_Bound.f k (n : Int) xs i j) (x11, x12) → Ev (fun k => dbm_Point.f k (n : Int) xs j) (x13, x14) →
      Ev (fun k => warrantorlaw08_DbmChecks_v1.j1 k i j x11 x12 x13 x14 (decide (0 ≤ j ∧ j ≤ n)) (n : Int) xs) true →
      Ev (fun k => (dbm_Bound.f k (n : Int) xs i j).bind fun bt387 => (dbm_Point.f k (n : Int) xs j).bind fun bt389 => (warrantorref08_Check.f k (n : Int) xs).bind fun t393 => (warrantorlaw08_lives.f k).bind fun t394 => if t394 = true then (dbm_Check.f k (n : Int) xs).bind fun t395 => if ((t395 == 0) != t393) = true then none else if t393 = true then (dbm_Same.f k (n : Int) xs b ys).bind fun t396 => (warrantorref08_Same.f k (n : Int) xs b ys).bind fun t397 => if (t396 != t397) = true then none else (dbm_Empty.f k (n : Int) xs).bind fun t398 => if (t398 != ((xs.length : Int) == 0)) = true then none else (dbm_Has.f k (n : Int) xs v).bind fun t399 => (warrantorref08_Has.f k (n : Int) xs v).bind fun t400 => if (t399 != t400) = true then none else if (xs.length : Int) > 0 then if j ≥ 0 then warrantorlaw08_DbmChecks_v1.j1 k i j bt387.1 bt387.2 bt389.1 bt389.2 (decide (j ≤ (n : Int))) (n : Int) xs else warrantorlaw08_DbmChecks_v1.j1 k i j bt387.1 bt387.2 bt389.1 bt389.2 false (n : Int) xs else warrantorlaw08_DbmChecks_v1.j1 k i j bt387.1 bt387.2 bt389.1 bt389.2 false (n : Int) xs else none else none) true := by
    intro x11 x12 x13 x14 hB hP hj2
    refine Ev.bind hB ?_
    refine Ev.bind hP ?_
    refine Ev.bind (ev_refCheck _ _ hx) ?_
    refine Ev.bind ev_lives ?_
    simp only [if_pos, hz]
    refine Ev.bind (ev_Check (n : Int) xs) ?_
    simp only [if_pos, hz, show ((0 : Int) == 0) = true from rfl, bne_self_eq_false, if_neg Bool.false_ne_true]
    refine Ev.bind hs1 (Ev.bind hs2 ?_)
    simp only [bne_self_eq_false, if_neg Bool.false_ne_true]
    refine Ev.bind (ev_Empty (n : Int) xs) ?_
    have e1 : ((isZone (n : Int) xs && decide (xs = [])) != ((xs.length : Int) == 0)) = false := by
      have e2 : ((xs.length : Int) == 0) = false := by rw [beq_eq_false_iff_ne]; omega
      rw [e2, decide_eq_false h0, Bool.and_false]; rfl
    simp only [e1, if_neg Bool.false_ne_true]
    obtain ⟨t, ht1, ht2⟩ := ev_both hz hv
    refine Ev.bind ht1 (Ev.bind ht2 ?_)
    simp only [bne_self_eq_false, if_neg Bool.false_ne_true, if_pos (show (xs.length : Int) > 0 by omega)]
    by_cases hj : j ≥ 0
    · simp only [if_pos hj]
      have e3 : decide (j ≤ (n : Int)) = decide (0 ≤ j ∧ j ≤ n) := by
        apply Bool.eq_iff_iff.2; rw [decide_eq_true_eq, decide_eq_true_eq]; omega
      rw [e3]; exact hj2
    · simp only [if_neg hj]
      have e3 : decide (0 ≤ j ∧ j ≤ (n : Int)) = false := decide_eq_false (by omega)
      rw [e3] at hj2; exact hj2
  obtain ⟨q, rfl⟩ : ∃ q : Nat, j = (q : Int) := ⟨j.toNat, by omega⟩
  have hq : q ≤ n := by omega
  by_cases hi : 0 ≤ i ∧ i ≤ n
  · obtain ⟨p, rfl⟩ : ∃ p : Nat, i = (p : Int) := ⟨i.toNat, by omega⟩
    have hp : p ≤ n := by omega
    refine rest _ _ _ _ (ev_Bound hn hz h0 hl hp hq) (ev_Point hn hz h0 hl hq hb) ?_
    rw [decide_eq_true hj]
    refine Ev.succ (fun k => by rw [warrantorlaw08_DbmChecks_v1.j1]) ?_
    simp only [bne_self_eq_false, if_neg Bool.false_ne_true, if_pos, if_pos (show (p : Int) ≥ 0 by omega), decide_eq_true (show (p : Int) ≤ (n : Int) by omega)]
    refine Ev.succ (fun k => by rw [warrantorlaw08_DbmChecks_v1.j2]) ?_
    have hlt := place_lt hp hq
    simp only [if_neg Bool.false_ne_true, if_pos, ref_at n hn p q hp hq]
    rw [if_pos (by omega), if_pos (by omega)]
    have e5 : at_ n xs p q = rd xs ((p * (n + 1) + q : Nat) : Int) := rfl
    simp only [e5, if_pos, pt_len, beq_self_eq_true]
    exact Ev.const rfl
  · refine rest 0 false _ _ (ev_Bound_no (by simp [odd_yes hi])) (ev_Point hn hz h0 hl hq hb) ?_
    rw [decide_eq_true hj]
    refine Ev.succ (fun k => by rw [warrantorlaw08_DbmChecks_v1.j1]) ?_
    simp only [bne_self_eq_false, if_neg Bool.false_ne_true, if_pos]
    by_cases hi0 : i ≥ 0
    · simp only [if_pos hi0, decide_eq_false (show ¬ i ≤ (n : Int) by omega), bne_self_eq_false, if_neg Bool.false_ne_true]
      exact ev_j3_no1 _ _ _ _ _ _
    · simp only [if_neg hi0]
      exact ev_j3_no1 _ _ _ _ _ _
theorem checks_out (n : Nat) (xs : List Int) (b : Int) (ys v : List Int) (i j : Int) (hx : xs.length ≤ 200) (hv : v.length ≤ 20) (hz : isZone (n : Int) xs = true) (hn : n ≤ 8) (h0 : ¬ xs = []) (hl : xs.length = (n + 1) * (n + 1)) (hD : IsClosure n (cut n xs) (at_ n xs)) (hj : ¬ (0 ≤ j ∧ j ≤ n)) : Ev (fun k => warrantorlaw08_DbmChecks_v2.j0 k v i j false (n : Int) xs b ys) true := by
  refine Ev.succ (fun k => by rw [warrantorlaw08_DbmChecks_v2.j0]) ?_
  simp only [if_neg Bool.false_ne_true]
  obtain ⟨s, hs1, hs2⟩ := same_both (n : Int) b xs ys hx
  have hlpos : 0 < xs.length := List.length_pos_iff.2 h0
  have hb : ∀ a b, a ≤ n → b ≤ n → -2199023255552 ≤ at_ n xs a b ∧ at_ n xs a b ≤ 2199023255552 := fun a b ha hb =>
    ⟨hD.1.above hD.2.1 (cut_le n xs) ha hb, Int.le_trans (hD.2.1 a b ha hb) (Int.le_trans (cut_le n xs a b) (far_le a b).2)⟩
  -- the rest, whatever is told of the bound and the point
  have rest : ∀ (x11 : Int) (x12 : Bool) (x13 : List Int) (x14 : Bool), Ev (fun k => dbm_Bound.f k (n : Int) xs i j) (x11, x12) → Ev (fun k => dbm_Point.f k (n : Int) xs j) (x13, x14) →
      Ev (fun k => warrantorlaw08_DbmChecks_v2.j1 k i j x11 x12 x13 x14 (decide (0 ≤ j ∧ j ≤ n)) (n : Int) xs) true →
      Ev (fun k => (dbm_Bound.f k (n : Int) xs i j).bind fun bt387 => (dbm_Point.f k (n : Int) xs j).bind fun bt389 => (warrantorref08_Check.f k (n : Int) xs).bind fun t393 => (warrantorlaw08_lives.f k).bind fun t394 => if t394 = true then (dbm_Check.f k (n : Int) xs).bind fun t395 => if ((t395 == 0) != t393) = true then none else if t393 = true then (dbm_Same.f k (n : Int) xs b ys).bind fun t396 => (warrantorref08_Same.f k (n : Int) xs b ys).bind fun t397 => if (t396 != t397) = true then none else (dbm_Empty.f k (n : Int) xs).bind fun t398 => if (t398 != ((xs.length : Int) == 0)) = true then none else (dbm_Has.f k (n : Int) xs v).bind fun t399 => (warrantorref08_Has.f k (n : Int) xs v).bind fun t400 => if (t399 != t400) = true then none else if (xs.length : Int) > 0 then if j ≥ 0 then warrantorlaw08_DbmChecks_v2.j1 k i j bt387.1 bt387.2 bt389.1 bt389.2 (decide (j ≤ (n : Int))) (n : Int) xs else warrantorlaw08_DbmChecks_v2.j1 k i j bt387.1 bt387.2 bt389.1 bt389.2 false (n : Int) xs else warrantorlaw08_DbmChecks_v2.j1 k i j bt387.1 bt387.2 bt389.1 bt389.2 false (n : Int) xs else none else none) true := by
    intro x11 x12 x13 x14 hB hP hj2
    refine Ev.bind hB ?_
    refine Ev.bind hP ?_
    refine Ev.bind (ev_refCheck _ _ hx) ?_
    refine Ev.bind ev_lives ?_
    simp only [if_pos, hz]
    refine Ev.bind (ev_Check (n : Int) xs) ?_
    simp only [if_pos, hz, show ((0 : Int) == 0) = true from rfl, bne_self_eq_false, if_neg Bool.false_ne_true]
    refine Ev.bind hs1 (Ev.bind hs2 ?_)
    simp only [bne_self_eq_false, if_neg Bool.false_ne_true]
    refine Ev.bind (ev_Empty (n : Int) xs) ?_
    have e1 : ((isZone (n : Int) xs && decide (xs = [])) != ((xs.length : Int) == 0)) = false := by
      have e2 : ((xs.length : Int) == 0) = false := by rw [beq_eq_false_iff_ne]; omega
      rw [e2, decide_eq_false h0, Bool.and_false]; rfl
    simp only [e1, if_neg Bool.false_ne_true]
    obtain ⟨t, ht1, ht2⟩ := ev_both hz hv
    refine Ev.bind ht1 (Ev.bind ht2 ?_)
    simp only [bne_self_eq_false, if_neg Bool.false_ne_true, if_pos (show (xs.length : Int) > 0 by omega)]
    by_cases hj : j ≥ 0
    · simp only [if_pos hj]
      have e3 : decide (j ≤ (n : Int)) = decide (0 ≤ j ∧ j ≤ n) := by
        apply Bool.eq_iff_iff.2; rw [decide_eq_true_eq, decide_eq_true_eq]; omega
      rw [e3]; exact hj2
    · simp only [if_neg hj]
      have e3 : decide (0 ≤ j ∧ j ≤ (n : Int)) = false := decide_eq_false (by omega)
      rw [e3] at hj2; exact hj2
  refine rest 0 false [] false (ev_Bound_no (by simp [odd_yes hj])) (ev_Point_no (by simp [odd_yes hj])) ?_
  rw [decide_eq_false hj]
  exact ev_j2_no2 i j _ _
theorem checks_nil (n : Nat) (b : Int) (ys v : List Int) (i j : Int) (hv : v.length ≤ 20) (hz : isZone (n : Int) [] = true) : Ev (fun k => warrantorlaw08_DbmChecks_v2.j0 k v i j false (n : Int) [] b ys) true := by
  refine Ev.succ (fun k => by rw [warrantorlaw08_DbmChecks_v2.j0]) ?_
  simp only [if_neg Bool.false_ne_true]
  obtain ⟨s, hs1, hs2⟩ := same_both (n : Int) b [] ys (by simp)
  have hno : ∀ l : List Int, (isZone (n : Int) [] && !decide (([] : List Int) = []) && !(l.any (oddVar (n : Int)))) = false := fun l => by simp
  refine Ev.bind (ev_Bound_no (hno _)) ?_
  refine Ev.bind (ev_Point_no (hno _)) ?_
  refine Ev.bind (ev_refCheck _ _ (by simp)) ?_
  refine Ev.bind ev_lives ?_
  simp only [if_pos, hz]
  refine Ev.bind (ev_Check (n : Int) []) ?_
  simp only [if_pos, hz, show ((0 : Int) == 0) = true from rfl, bne_self_eq_false, if_neg Bool.false_ne_true]
  refine Ev.bind hs1 (Ev.bind hs2 ?_)
  simp only [bne_self_eq_false, if_neg Bool.false_ne_true]
  refine Ev.bind (ev_Empty (n : Int) []) ?_
  simp only [hz, decide_true, Bool.and_self, List.length_nil, show (((0 : Nat) : Int) == 0) = true from rfl, bne_self_eq_false, if_neg Bool.false_ne_true]
  obtain ⟨t, ht1, ht2⟩ := ev_both hz hv
  refine Ev.bind ht1 (Ev.bind ht2 ?_)
  simp only [bne_self_eq_false, if_neg Bool.false_ne_true, List.length_nil, if_neg (show ¬ (((0 : Nat) : Int)) > 0 by decide)]
  exact ev_j2_no2 i j _ _
theorem checks_no (a : Int) (xs : List Int) (b : Int) (ys v : List Int) (i j : Int) (hx : xs.length ≤ 200) (hz2 : isZone a xs = false) : Ev (fun k => warrantorlaw08_DbmChecks_v0.j0 k v i j false a xs b ys) true := by
  refine Ev.succ (fun k => by rw [warrantorlaw08_DbmChecks_v0.j0]) ?_
  simp only [if_neg Bool.false_ne_true]
  obtain ⟨s, hs1, hs2⟩ := same_both a b xs ys hx
  refine Ev.bind (ev_Bound_no (by rw [hz2]; rfl)) ?_
  refine Ev.bind (ev_Point_no (by rw [hz2]; rfl)) ?_
  refine Ev.bind (ev_refCheck _ _ hx) ?_
  refine Ev.bind ev_lives ?_
  simp only [if_pos, hz2]
  refine Ev.bind (ev_Check a xs) ?_
  simp only [hz2, if_neg Bool.false_ne_true, show ((80 : Int) == 0) = false from rfl, bne_self_eq_false]
  refine Ev.bind (ev_Check a xs) ?_
  simp only [hz2, if_neg Bool.false_ne_true, if_pos]
  refine Ev.bind hs1 (Ev.bind hs2 ?_)
  simp only [bne_self_eq_false, if_neg Bool.false_ne_true]
  refine Ev.bind (ev_Empty a xs) ?_
  simp only [hz2, Bool.false_and, bne_self_eq_false, if_neg Bool.false_ne_true]
  refine Ev.bind (ev_Has_no (.inl (by rw [hz2]; rfl))) ?_
  simp only [bne_self_eq_false, if_neg Bool.false_ne_true, if_pos, List.length_nil]
  refine Ev.succ (fun k => by rw [warrantorlaw08_DbmChecks_v0.j1]) ?_
  simp only [show ((((0 : Nat) : Int)) != 0) = false from rfl, if_neg Bool.false_ne_true]
  exact Ev.const rfl
theorem pure_DbmChecks : warrantorlaw08_DbmChecks.Pure := by
  intro a xs b ys v i j _ _ _ _ _ _ _ _ _ _ _ _ _
  have hlv : Ev (fun k => warrantorlaw08_DbmChecks_v1.j0 k v i j true a xs b ys) true := by
    refine Ev.succ (fun k => by rw [warrantorlaw08_DbmChecks_v1.j0]) ?_
    simp only [if_pos]
    exact Ev.bind ev_lives (Ev.const rfl)
  have hlarge : Ev (fun k => warrantorlaw08_DbmChecks_v0.f k a xs b ys v i j) true ∨ Ev (fun k => warrantorlaw08_DbmChecks_v1.f k a xs b ys v i j) true ∨ Ev (fun k => warrantorlaw08_DbmChecks_v2.f k a xs b ys v i j) true := by
    unfold warrantorlaw08_DbmChecks_v0.f warrantorlaw08_DbmChecks_v1.f warrantorlaw08_DbmChecks_v2.f warrantorref08_Large.f
    simp only [Option.bind_some, decide_eq_true_eq]
    by_cases h1 : (xs.length : Int) > 200
    · simp only [if_pos h1]; exact .inr (.inl hlv)
    · simp only [if_neg h1]
      by_cases h2 : (ys.length : Int) > 200
      · simp only [if_pos h2]; exact .inr (.inl hlv)
      · simp only [if_neg h2]
        by_cases h3 : (v.length : Int) > 20
        · simp only [decide_eq_true h3]; exact .inr (.inl hlv)
        · simp only [decide_eq_false h3]
          cases hz : isZone a xs with
          | true =>
            obtain ⟨n, rfl, hn, h0 | ⟨h0, hl, hD⟩⟩ := zone_cases hz
            · subst h0; exact .inr (.inr (checks_nil n b ys v i j (by omega) hz))
            · by_cases hj : 0 ≤ j ∧ j ≤ n
              · exact .inr (.inl (checks_in n xs b ys v i j (by omega) (by omega) hz hn h0 hl hD hj))
              · exact .inr (.inr (checks_out n xs b ys v i j (by omega) (by omega) hz hn h0 hl hD hj))
          | false => exact .inl (checks_no a xs b ys v i j (by omega) hz)
  rcases hlarge with h | h | h
  · obtain ⟨k, hk⟩ := h.get
    exact ⟨k, .inl hk⟩
  · obtain ⟨k, hk⟩ := h.get
    exact ⟨k, .inr (.inl hk)⟩
  · obtain ⟨k, hk⟩ := h.get
    exact ⟨k, .inr (.inr hk)⟩
end Go.Proofs.Ytgbndakiiblhmaa.DbmEv
namespace Go.Proofs.Ytgbndakiiblhmaa.Pure
open Go.RowKit Go.Proofs.Ytgbndakiiblhmaa.F Go.Proofs.YtgbndakiiblhmaaW.PrintWords Go.Proofs.YtgbndakiiblhmaaW.PrintLast
theorem DbmChecks : warrantorlaw08_DbmChecks.Pure := DbmEv.pure_DbmChecks
end Go.Proofs.Ytgbndakiiblhmaa.Pure

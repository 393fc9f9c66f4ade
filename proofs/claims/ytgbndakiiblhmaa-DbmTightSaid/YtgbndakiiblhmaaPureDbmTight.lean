/- Each bound is met by a valuation that the zone has, and bounds are tight: the walk's pure function answers true for all inputs. -/
import Derived.Test.YtgbndakiiblhmaaFx23
import Derived.Test.YtgbndakiiblhmaaDbmPoint
namespace Go.Proofs.Ytgbndakiiblhmaa.DbmEv
open Go.RowKit Go.Proofs.Ytgbndakiiblhmaa.F Go.Proofs.YtgbndakiiblhmaaW.PrintWords Go.Proofs.YtgbndakiiblhmaaW.PrintLast Go.Proofs.Ytgbndakiiblhmaa.DbmMath
theorem tight_loop {n : Nat} (hn : n ≤ 8) {xs : List Int} (hz : isZone (n : Int) xs = true) (hx : ¬ xs = []) (hl : xs.length = (n + 1) * (n + 1)) {j : Nat} (hj : j ≤ n)
    {c : Mat} (h : IsClosure n c (at_ n xs)) (hc : ∀ i j, c i j ≤ far i j) : Ev (fun k => warrantorlaw08_DbmTight.l0 k (n : Int) (j : Int) (0 :: pt n (at_ n xs) j n) 0 (n : Int) xs) true := by
  have hw : ∀ i, rd (0 :: pt n (at_ n xs) j n) (i : Nat) = wv (pt n (at_ n xs) j n) i := fun i => rfl
  have hlen : ((0 :: pt n (at_ n xs) j n).length : Int) = ((n + 1 : Nat) : Int) := by rw [List.length_cons, pt_len]
  have hb : ∀ a b, a ≤ n → b ≤ n → -2199023255552 ≤ at_ n xs a b ∧ at_ n xs a b ≤ 2199023255552 := fun a b ha hb =>
    ⟨h.1.above h.2.1 hc ha hb, Int.le_trans (h.2.1 a b ha hb) (Int.le_trans (hc a b) (far_le a b).2)⟩
  have hjj := h.1.diag h.2.1 hc hj
  refine (?_ : ∀ m i, i + m = n + 1 → Ev (fun k => warrantorlaw08_DbmTight.l0 k (n : Int) (j : Int) (0 :: pt n (at_ n xs) j n) (i : Int) (n : Int) xs) true) (n + 1) 0 (by omega)
  intro m
  induction m with
  | zero =>
    intro i hi
    refine Ev.succ (fun k => by rw [warrantorlaw08_DbmTight.l0]) ?_
    simp only [if_neg (show ¬ (i : Int) ≤ (n : Int) by omega)]
    exact Ev.const rfl
  | succ m ih =>
    intro i hi
    have hin : i ≤ n := by omega
    have b1 := hb i j hin hj
    have b2 := hb 0 j (by omega) hj
    refine Ev.succ (fun k => by rw [warrantorlaw08_DbmTight.l0]) ?_
    simp only [if_pos (show (i : Int) ≤ (n : Int) by omega)]
    refine Ev.bind (ev_Bound hn hz hx hl hin hj) ?_
    simp only [if_pos (show (0 : Int) ≤ (i : Int) by omega), hlen, if_pos (show (i : Int) < ((n + 1 : Nat) : Int) by omega), if_pos (show (0 : Int) ≤ (j : Int) by omega), if_pos (show (j : Int) < ((n + 1 : Nat) : Int) by omega), hw, pt_wv hin, pt_wv hj, hjj]
    rw [w64 (by omega) (by omega)]
    simp only [if_pos (show at_ n xs i j - at_ n xs 0 j - (0 - at_ n xs 0 j) = at_ n xs i j by omega)]
    refine (?_ : ∀ d q, q + d = n + 1 → Ev (fun k => warrantorlaw08_DbmTight.l1 k (n : Int) (j : Int) (0 :: pt n (at_ n xs) j n) (i : Int) (at_ n xs i j) (q : Int) (n : Int) xs) true) (n + 1) 0 (by omega)
    intro d
    induction d with
    | zero =>
      intro q hq
      refine Ev.succ (fun k => by rw [warrantorlaw08_DbmTight.l1]) ?_
      simp only [if_neg (show ¬ (q : Int) ≤ (n : Int) by omega), succ_nat i (by omega)]
      exact ih (i + 1) (by omega)
    | succ d ih2 =>
      intro q hq
      have hqn : q ≤ n := by omega
      have b3 := hb i q hin hqn
      have b4 := hb q j hqn hj
      have h5 := h.1.1 i j q hin hj hqn
      refine Ev.succ (fun k => by rw [warrantorlaw08_DbmTight.l1]) ?_
      simp only [if_pos (show (q : Int) ≤ (n : Int) by omega)]
      refine Ev.bind (ev_Bound hn hz hx hl hin hqn) ?_
      refine Ev.bind (ev_Bound hn hz hx hl hqn hj) ?_
      simp only [w64 (x := at_ n xs i q + at_ n xs q j) (by omega) (by omega), if_neg (show ¬ at_ n xs i j > at_ n xs i q + at_ n xs q j by omega), succ_nat q (by omega)]
      exact ih2 (q + 1) (by omega)
theorem tight_law {n : Nat} (hn : n ≤ 8) {m : List Int} (hm : m.length = (n + 1) * (n + 1)) {j : Nat} (hj : j ≤ n) :
    Ev (fun k => warrantorlaw08_DbmTight.j0 k (n : Int) m (j : Int) false) true := by
  have hf := fits_of hn hm
  refine Ev.succ (fun k => by rw [warrantorlaw08_DbmTight.j0]) ?_
  simp only [if_neg Bool.false_ne_true]
  refine Ev.bind (ev_Close (n : Int) m) ?_
  have eC : closeR (n : Int) m = ((n : Int), if closeOk n m = true then closeTo n m (n + 1) else [], 0) := by
    unfold closeR
    rw [if_pos hf]; simp
  rw [eC]
  rcases prog_close hm with ⟨h1, hD⟩ | ⟨h1, hD⟩
  · simp only [if_pos h1]
    have hlen : (closeTo n m (n + 1)).length = (n + 1) * (n + 1) := by rw [closeTo_length]; exact hm
    have hz := closure_zone hn hlen (cut_le n m) hD
    have hne : ¬ closeTo n m (n + 1) = [] := fun h => by
      rw [h] at hlen
      have : 0 < (n + 1) * (n + 1) := Nat.mul_pos (Nat.succ_pos n) (Nat.succ_pos n)
      simp at hlen
    have hb : ∀ a b, a ≤ n → b ≤ n → -2199023255552 ≤ at_ n (closeTo n m (n + 1)) a b ∧ at_ n (closeTo n m (n + 1)) a b ≤ 2199023255552 := fun a b ha hb =>
      ⟨hD.1.above hD.2.1 (cut_le n m) ha hb, Int.le_trans (hD.2.1 a b ha hb) (Int.le_trans (cut_le n m a b) (far_le a b).2)⟩
    refine Ev.bind (ev_Point hn hz.2.2 hne hlen hj hb) ?_
    refine Ev.bind ev_lives ?_
    simp only [if_pos]
    refine Ev.bind (ev_Empty (n : Int) (closeTo n m (n + 1))) ?_
    have e0 : (true == (isZone (n : Int) (closeTo n m (n + 1)) && decide (closeTo n m (n + 1) = []))) = false := by simp [hne]
    rw [e0]
    refine Ev.succ (fun k => by rw [warrantorlaw08_DbmTight.j1]) ?_
    simp only [if_neg Bool.false_ne_true, if_pos]
    have hv := pt_val hD (cut_le n m) hj
    refine Ev.bind (ev_Has hn hz.2.2 hne hlen (pt_len _ _ _ _)) ?_
    simp only [(hasB_iff hD.1.2).2 hv, if_pos]
    refine Ev.bind (ev_Holds hn (pt_len _ _ _ _) hm) ?_
    simp only [holdsB_iff.2 ((val_closure hD).1 hv), if_pos, pt_len, bne_self_eq_false]
    refine Ev.succ (fun k => by rw [warrantorlaw08_DbmTight.j2]) ?_
    simp only [if_neg Bool.false_ne_true, Option.bind_some, pt_len, List.length_cons, List.length_nil, if_pos (show 0 + 1 + n < 17592186044416 by omega), List.cons_append, List.nil_append]
    exact tight_loop hn hz.2.2 hne hlen hj hD (cut_le n m)
  · simp only [h1, if_neg Bool.false_ne_true]
    refine Ev.bind (ev_Point_none (n : Int) (j : Int)) ?_
    refine Ev.bind ev_lives ?_
    simp only [if_pos]
    refine Ev.bind (ev_Empty (n : Int) []) ?_
    have hv : isZone (n : Int) [] = true := by
      unfold isZone vars
      simp; omega
    have e0 : (false == (isZone (n : Int) [] && decide (([] : List Int) = []))) = false := by rw [hv]; decide
    rw [e0]
    refine Ev.succ (fun k => by rw [warrantorlaw08_DbmTight.j1]) ?_
    simp only [if_neg Bool.false_ne_true]
    exact Ev.const rfl
theorem pure_DbmTight : warrantorlaw08_DbmTight.Pure := by
  intro a m j0 _ hm _ _ _
  apply Ev.get
  unfold warrantorlaw08_DbmTight.f warrantorref08_Large.f
  have hlives : Ev (fun k => warrantorlaw08_DbmTight.j0 k a m j0 true) true := by
    refine Ev.succ (fun k => by rw [warrantorlaw08_DbmTight.j0]) ?_
    simp only [if_pos, Option.bind_fun_some]
    exact ev_lives
  have hV : warrantorref08_Vars.f a = some (vars a) := vars_f a
  simp only [Option.bind_some, hV]
  by_cases h1 : (m.length : Int) > 200
  · simp only [h1, decide_true, if_pos]; exact hlives
  · simp only [h1, decide_false, if_neg Bool.false_ne_true]
    by_cases hv : vars a = true
    · obtain ⟨n, rfl⟩ := Int.eq_ofNat_of_zero_le (of_decide_eq_true hv).1
      have hn : n ≤ 8 := by have := (of_decide_eq_true hv).2; omega
      have e := size_eq hv
      rw [Int.toNat_natCast] at e
      simp only [if_pos hv, e]
      by_cases hl : m.length = (n + 1) * (n + 1)
      · simp only [if_pos (show (m.length : Int) = (((n + 1) * (n + 1) : Nat) : Int) by omega)]
        by_cases h3 : j0 < 0
        · simp only [if_pos h3]; exact hlives
        · simp only [if_neg h3]
          by_cases h4 : j0 > (n : Int)
          · simp only [h4, decide_true]; exact hlives
          · simp only [h4, decide_false]
            obtain ⟨j, rfl⟩ := Int.eq_ofNat_of_zero_le (show 0 ≤ j0 by omega)
            exact tight_law hn hl (by omega)
      · simp only [if_neg (show ¬ (m.length : Int) = (((n + 1) * (n + 1) : Nat) : Int) by omega)]
        exact hlives
    · simp only [if_neg hv]; exact hlives
end Go.Proofs.Ytgbndakiiblhmaa.DbmEv
namespace Go.Proofs.Ytgbndakiiblhmaa.Pure
open Go.RowKit Go.Proofs.Ytgbndakiiblhmaa.F Go.Proofs.YtgbndakiiblhmaaW.PrintWords Go.Proofs.YtgbndakiiblhmaaW.PrintLast
theorem DbmTight : warrantorlaw08_DbmTight.Pure := DbmEv.pure_DbmTight
end Go.Proofs.Ytgbndakiiblhmaa.Pure

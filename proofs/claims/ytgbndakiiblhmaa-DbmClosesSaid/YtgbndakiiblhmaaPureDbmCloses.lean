/- The zone of any matrix, of all valuations, and its closing again: the walk's pure function answers true for all inputs. -/
import Derived.Test.YtgbndakiiblhmaaFx21
import Derived.Test.YtgbndakiiblhmaaDbmRef
namespace Go.Proofs.Ytgbndakiiblhmaa.DbmEv
open Go.RowKit Go.Proofs.Ytgbndakiiblhmaa.F Go.Proofs.YtgbndakiiblhmaaW.PrintWords Go.Proofs.YtgbndakiiblhmaaW.PrintLast Go.Proofs.Ytgbndakiiblhmaa.DbmMath
theorem closeOk_self {n : Nat} (hn : n ≤ 8) {m : List Int} (hm : m.length = (n + 1) * (n + 1)) (h : closeOk n m = true) :
    (closeTo n m (n + 1)).length = (n + 1) * (n + 1) ∧ closeOk n (closeTo n m (n + 1)) = true ∧ closeTo n (closeTo n m (n + 1)) (n + 1) = closeTo n m (n + 1) ∧ isZone (n : Int) (closeTo n m (n + 1)) = true ∧ ¬ closeTo n m (n + 1) = [] := by
  have hlen : (closeTo n m (n + 1)).length = (n + 1) * (n + 1) := by rw [closeTo_length]; exact hm
  have hne : ¬ closeTo n m (n + 1) = [] := fun h => by
    rw [h] at hlen
    have : 0 < (n + 1) * (n + 1) := Nat.mul_pos (Nat.succ_pos n) (Nat.succ_pos n)
    simp at hlen
  rcases prog_close hm with ⟨_, hD⟩ | ⟨h1, _⟩
  · have hz := closure_zone hn hlen (cut_le n m) hD
    exact ⟨hlen, hz.1, hz.2.1, hz.2.2, hne⟩
  · rw [h] at h1; cases h1
theorem isZone_nil {n : Nat} (hn : n ≤ 8) : isZone (n : Int) [] = true := by
  unfold isZone vars
  simp; omega
theorem closes_law {n : Nat} (hn : n ≤ 8) (m : List Int) (hmax : m.length ≤ 4611686018427387904) :
    Ev (fun k => warrantorlaw08_DbmCloses.j0 k (n : Int) m (closeR (n : Int) m).2.2 false (closeR (n : Int) m).1 (closeR (n : Int) m).2.1) true := by
  have e := size_eq (a := (n : Int)) (by unfold vars; rw [decide_eq_true_eq]; omega)
  rw [Int.toNat_natCast] at e
  refine Ev.succ (fun k => by rw [warrantorlaw08_DbmCloses.j0]) ?_
  simp only [if_neg Bool.false_ne_true, e]
  by_cases hl : m.length = (n + 1) * (n + 1)
  · have hf := fits_of hn hl
    have eC : closeR (n : Int) m = ((n : Int), if closeOk n m = true then closeTo n m (n + 1) else [], 0) := by
      unfold closeR
      rw [if_pos hf]; simp
    have hlen81 := closeR_len (n : Int) m
    rw [eC] at hlen81 ⊢
    simp only [if_pos (show (m.length : Int) = (((n + 1) * (n + 1) : Nat) : Int) by omega), if_pos]
    refine Ev.bind (ev_refClose hn hl) ?_
    refine Ev.bind (ev_refSame _ _ _ _ (by have := hlen81; simp only at this; omega)) ?_
    simp only [and_self, decide_true, if_pos]
    have hz : isZone (n : Int) (if closeOk n m = true then closeTo n m (n + 1) else []) = true := by
      by_cases h : closeOk n m = true
      · rw [if_pos h]; exact (closeOk_self hn hl h).2.2.2.1
      · rw [if_neg h]; exact isZone_nil hn
    refine Ev.bind (ev_Check _ _) ?_
    rw [if_pos hz]
    simp only [if_pos]
    refine Ev.bind (ev_Empty _ _) ?_
    rw [hz, Bool.true_and]
    by_cases h : closeOk n m = true
    · simp only [if_pos h]
      obtain ⟨h1, h2, h3, h4, h5⟩ := closeOk_self hn hl h
      have hs := size_le hn
      have e1 : (decide (closeTo n m (n + 1) = []) != (((closeTo n m (n + 1)).length : Int) == 0)) = false := by
        have : ¬ (((closeTo n m (n + 1)).length : Int) = 0) := fun h => h5 (List.eq_nil_of_length_eq_zero (by omega))
        simp only [h5, decide_false, beq_eq_false_iff_ne.2 this]
        rfl
      rw [e1]
      refine Ev.succ (fun k => by rw [warrantorlaw08_DbmCloses.j1]) ?_
      simp only [if_neg Bool.false_ne_true]
      refine Ev.bind (ev_Close (n : Int) (closeTo n m (n + 1))) ?_
      have eC2 : closeR (n : Int) (closeTo n m (n + 1)) = ((n : Int), closeTo n m (n + 1), 0) := by
        unfold closeR
        rw [if_pos (fits_of hn h1)]
        simp only [Int.toNat_natCast, if_pos h2, h3]
      rw [eC2]
      have hne : ¬ (((closeTo n m (n + 1)).length : Int) = 0) := fun h => h5 (List.eq_nil_of_length_eq_zero (by omega))
      simp only [if_neg hne, if_pos, Option.bind_fun_some]
      have := ev_Same (n : Int) (n : Int) (closeTo n m (n + 1)) (closeTo n m (n + 1)) (by omega)
      simpa using this
    · simp only [if_neg h]
      have e1 : (decide True != ((([] : List Int).length : Int) == 0)) = false := by decide
      simp only [e1]
      refine Ev.succ (fun k => by rw [warrantorlaw08_DbmCloses.j1]) ?_
      simp only [if_neg Bool.false_ne_true]
      refine Ev.bind (ev_Close (n : Int) []) ?_
      simp only [List.length_nil]
      exact Ev.const rfl
  · have hf : fits (n : Int) m = false := by
      unfold fits
      simp [hl]
    have eC : closeR (n : Int) m = (0, [], 1) := by
      unfold closeR
      rw [if_neg (by rw [hf]; decide)]
    rw [eC]
    simp only [if_neg (show ¬ (m.length : Int) = (((n + 1) * (n + 1) : Nat) : Int) by omega), if_pos, Option.bind_fun_some]
    have := ev_refSame 0 0 [] [] (by simp)
    simpa using this
theorem pure_DbmCloses : warrantorlaw08_DbmCloses.Pure := by
  intro a m _ _ hm _
  have hmax : m.length ≤ 4611686018427387904 := by omega
  apply Ev.get
  unfold warrantorlaw08_DbmCloses.f warrantorref08_Large.f
  simp only [Option.bind_some]
  by_cases h1 : (m.length : Int) > 200
  · simp only [h1, decide_true, if_pos, Option.bind_fun_some]
    exact ev_lives
  · simp only [h1, decide_false, if_neg Bool.false_ne_true]
    refine Ev.bind (ev_Close a m) ?_
    simp only [all_f, Option.bind_some]
    refine Ev.bind ev_lives ?_
    simp only [if_pos, refVars_f, Option.bind_some]
    by_cases hv : vars a = true
    · simp only [if_pos hv, if_pos]
      obtain ⟨n, rfl⟩ := Int.eq_ofNat_of_zero_le (of_decide_eq_true hv).1
      have hn : n ≤ 8 := by have := (of_decide_eq_true hv).2; omega
      have hs := size_le hn
      refine Ev.bind (ev_refAll hn) ?_
      simp only [Int.toNat_natCast]
      refine Ev.bind (ev_refSame _ _ _ _ (by rw [eachTo_length, List.length_replicate]; omega)) ?_
      simp only [and_self, decide_true, Bool.not_true]
      exact closes_law hn m hmax
    · simp only [if_neg hv]
      have hf : ¬ fits a m = true := by
        unfold fits
        simp [hv]
      have eC : closeR a m = (0, [], 1) := by
        unfold closeR
        rw [if_neg hf]
      rw [eC]
      simp only [if_pos]
      refine Ev.bind (ev_Same 0 0 [] [] (by simp)) ?_
      simp only [and_self, decide_true, if_pos, Option.bind_fun_some]
      have := ev_refSame 0 0 [] [] (by simp)
      simpa using this
end Go.Proofs.Ytgbndakiiblhmaa.DbmEv
namespace Go.Proofs.Ytgbndakiiblhmaa.Pure
open Go.RowKit Go.Proofs.Ytgbndakiiblhmaa.F Go.Proofs.YtgbndakiiblhmaaW.PrintWords Go.Proofs.YtgbndakiiblhmaaW.PrintLast
theorem DbmCloses : warrantorlaw08_DbmCloses.Pure := DbmEv.pure_DbmCloses
end Go.Proofs.Ytgbndakiiblhmaa.Pure

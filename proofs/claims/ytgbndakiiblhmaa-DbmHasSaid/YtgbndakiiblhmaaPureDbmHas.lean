/- What a zone has is what its matrix has: the walk's pure function answers true for all inputs. -/
import Derived.Test.YtgbndakiiblhmaaFx18
import Derived.Test.YtgbndakiiblhmaaDbmHas1
namespace Go.Proofs.Ytgbndakiiblhmaa.DbmEv
open Go.RowKit Go.Proofs.Ytgbndakiiblhmaa.F Go.Proofs.YtgbndakiiblhmaaW.PrintWords Go.Proofs.YtgbndakiiblhmaaW.PrintLast Go.Proofs.Ytgbndakiiblhmaa.DbmMath

theorem has_law {n : Nat} (hn : n ≤ 8) {m v : List Int} (hv : v.length = n) (hm : m.length = (n + 1) * (n + 1)) :
    Ev (fun k => warrantorlaw08_DbmHas.j0 k m v (v.length : Int) false) true := by
  have hf := fits_of hn hm
  refine Ev.succ (fun k => by rw [warrantorlaw08_DbmHas.j0]) ?_
  simp only [if_neg Bool.false_ne_true]
  refine Ev.bind (ev_Close (v.length : Int) m) ?_
  have eC : closeR (v.length : Int) m = ((n : Int), if closeOk n m = true then closeTo n m (n + 1) else [], 0) := by
    unfold closeR
    rw [hv, if_pos hf]; simp
  rw [eC]
  refine Ev.bind ev_lives ?_
  simp only [if_pos]
  have hH := ev_Holds hn hv hm
  rcases prog_close hm with ⟨h1, hD⟩ | ⟨h1, hD⟩
  · simp only [if_pos h1]
    have hlen : (closeTo n m (n + 1)).length = (n + 1) * (n + 1) := by rw [closeTo_length]; exact hm
    have hz := closure_zone hn hlen (cut_le n m) hD
    have hne : ¬ closeTo n m (n + 1) = [] := fun h => by
      rw [h] at hlen
      have : 0 < (n + 1) * (n + 1) := Nat.mul_pos (Nat.succ_pos n) (Nat.succ_pos n)
      simp at hlen
    refine Ev.bind (ev_Has hn hz.2.2 hne hlen hv) ?_
    refine Ev.bind hH ?_
    have e : hasB n (closeTo n m (n + 1)) v = holdsB n m v := by
      apply Bool.eq_iff_iff.2
      rw [hasB_iff hD.1.2, holdsB_iff]
      exact val_closure hD
    rw [e]
    simp only [beq_self_eq_true, if_pos]
    refine Ev.bind hH ?_
    cases hb : holdsB n m v with
    | false => simp only [if_neg Bool.false_ne_true]; exact Ev.const rfl
    | true =>
      simp only [if_pos]
      refine Ev.bind (ev_Empty (n : Int) (closeTo n m (n + 1))) ?_
      exact Ev.const (by simp [hne])
  · simp only [h1, if_neg Bool.false_ne_true]
    refine Ev.bind (ev_Has_none (n : Int) v) ?_
    refine Ev.bind hH ?_
    have hb : holdsB n m v = false := by
      cases hb : holdsB n m v with
      | false => rfl
      | true => exact absurd (holdsB_iff.1 hb) (dead_val hD)
    simp only [hb, beq_self_eq_true, if_pos]
    refine Ev.bind hH ?_
    simp only [hb, if_neg Bool.false_ne_true]
    exact Ev.const rfl

theorem pure_DbmHas : warrantorlaw08_DbmHas.Pure := by
  intro m v _ _ _ _ _ _
  apply Ev.get
  unfold warrantorlaw08_DbmHas.f
  have hj : Ev (fun k => warrantorlaw08_DbmHas.j0 k m v (v.length : Int) true) true := by
    refine Ev.succ (fun k => by rw [warrantorlaw08_DbmHas.j0]) ?_
    simp only [if_pos, Option.bind_fun_some]
    exact ev_lives
  unfold warrantorref08_Large.f
  simp only [Option.bind_some]
  by_cases h1 : (m.length : Int) > 200
  · simp only [h1, decide_true, if_pos]; exact hj
  · simp only [h1, decide_false, if_neg Bool.false_ne_true]
    by_cases h2 : (v.length : Int) > 8
    · simp only [if_pos h2]; exact hj
    · simp only [if_neg h2]
      have hv8 : v.length ≤ 8 := by omega
      have e := size_eq (a := (v.length : Int)) (by unfold vars; rw [decide_eq_true_eq]; omega)
      rw [Int.toNat_natCast] at e
      simp only [e]
      by_cases h3 : m.length = (v.length + 1) * (v.length + 1)
      · have e3 : ((m.length : Int) != (((v.length + 1) * (v.length + 1) : Nat) : Int)) = false := by rw [bne_eq_false_iff_eq]; omega
        simp only [e3]
        exact has_law hv8 rfl h3
      · have e3 : ((m.length : Int) != (((v.length + 1) * (v.length + 1) : Nat) : Int)) = true := by rw [bne_iff_ne]; omega
        simp only [e3]
        exact hj

end Go.Proofs.Ytgbndakiiblhmaa.DbmEv
namespace Go.Proofs.Ytgbndakiiblhmaa.Pure
open Go.RowKit Go.Proofs.Ytgbndakiiblhmaa.F Go.Proofs.YtgbndakiiblhmaaW.PrintWords Go.Proofs.YtgbndakiiblhmaaW.PrintLast
theorem DbmHas : warrantorlaw08_DbmHas.Pure := DbmEv.pure_DbmHas
end Go.Proofs.Ytgbndakiiblhmaa.Pure

/- ZoneOne: what is made of any zone by the program is what the reference makes. -/
import Derived.Test.YtgeemdpflcefkaaZx3
import Derived.Test.YtgeemdpflcefkaaZx15
import Derived.Test.YtgeemdpflcefkaaZx16
import Derived.Test.YtgeemdpflcefkaaZx17
import Derived.Test.YtgeemdpflcefkaaZx19
import Derived.Test.YtgeemdpflcefkaaZx41
import Derived.Test.YtgeemdpflcefkaaZx42
import Derived.Test.YtgeemdpflcefkaaZx43
import Derived.Test.YtgeemdpflcefkaaZx44
import Derived.Test.YtgeemdpflcefkaaZx45
import Derived.Test.YtgeemdpflcefkaaZoneRef
import Derived.Test.YtgeemdpflcefkaaZoneDbm
set_option linter.unusedVariables false
set_option linter.unusedSimpArgs false
namespace Go.Proofs.Ytgeemdpflcefkaa.DbmEv
open Go.RowKit Go.Proofs.Ytgeemdpflcefkaa.Z Go.Proofs.YtgeemdpflcefkaaW.PrintWords Go.Proofs.YtgeemdpflcefkaaW.PrintLast Go.Proofs.Ytgeemdpflcefkaa.DbmMath
def code (a : Int) (xs : List Int) (i lo j : Int) : Int := if isZone a xs = true then may a i lo j else 80
theorem ev_LimitE {a : Int} {xs : List Int} {i j : Int} (c : Int) (h : ¬ code a xs i 0 j = 0) : Ev (fun k => zone_Limit.f k a xs i j c) (0, [], code a xs i 0 j) := by
  unfold zone_Limit.f
  refine Ev.bind (ev_may _ _ _ _ _) ?_
  unfold code at h ⊢
  simp only [if_neg h]
  exact Ev.const rfl
theorem ev_ForgetE {a : Int} {xs : List Int} {i : Int} (h : ¬ code a xs i 1 0 = 0) : Ev (fun k => zone_Forget.f k a xs i) (0, [], code a xs i 1 0) := by
  unfold zone_Forget.f
  refine Ev.bind (ev_may _ _ _ _ _) ?_
  unfold code at h ⊢
  simp only [if_neg h]
  exact Ev.const rfl
theorem ev_LetE {a : Int} {xs : List Int} {i j : Int} (c : Int) (h : ¬ code a xs i 1 j = 0) : Ev (fun k => zone_Let.f k a xs i j c) (0, [], code a xs i 1 j) := by
  unfold zone_Let.f
  refine Ev.bind (ev_may _ _ _ _ _) ?_
  unfold code at h ⊢
  simp only [if_neg h]
  exact Ev.const rfl
theorem ev_ItvE {a : Int} {xs : List Int} {i : Int} (h : ¬ code a xs i 0 0 = 0) : Ev (fun k => zone_Itv.f k a xs i) (0, 0, code a xs i 0 0) := by
  unfold zone_Itv.f
  refine Ev.bind (ev_may _ _ _ _ _) ?_
  unfold code at h ⊢
  simp only [if_neg h]
  exact Ev.const rfl
theorem code_zone {n : Nat} {xs : List Int} (hz : isZone (n : Int) xs = true) {i lo j : Int} (h : i < lo ∨ i > n ∨ j < 0 ∨ j > n) : code (n : Int) xs i lo j = 1 := by
  unfold code may
  rw [if_pos hz, if_pos h]
theorem code_no {a : Int} {xs : List Int} (hz : ¬ isZone a xs = true) (i lo j : Int) : code a xs i lo j = 80 := by
  unfold code; rw [if_neg hz]
theorem one_v1 {n : Nat} {xs : List Int} (hz : isZone (n : Int) xs = true) (hl : xs.length ≤ 200) {i j : Nat} (hi : i ≤ n) (h1 : 1 ≤ i) (hj : j ≤ n) (c : Int) : Ev (fun k => warrantorlaw09_ZoneOne_v1.f k (n : Int) xs (i : Int) (j : Int) c) true := by
  obtain ⟨hn, hx⟩ := zone_len hz
  have hx2 := (zone_fit hz).2
  unfold warrantorlaw09_ZoneOne_v1.f warrantorref08_Large.f
  simp only [Option.bind_some, show decide ((xs.length : Int) > 200) = false from decide_eq_false (by omega), if_neg Bool.false_ne_true]
  refine Ev.bind (ev_Limit hz hi hj c) ?_
  refine Ev.bind (ev_Forget hz hi h1) ?_
  refine Ev.bind (ev_Let hz hi h1 hj c) ?_
  refine Ev.bind (ev_Itv hz hi) ?_
  refine Ev.bind ev_lives09 ?_
  simp only [if_pos]
  refine Ev.bind (ev_refCheck _ _ hl) ?_
  have dV : decide (1 ≤ (i : Int) ∧ (i : Int) ≤ (n : Int)) = true := decide_eq_true (by omega)
  have dO : decide (0 ≤ (i : Int) ∧ (i : Int) ≤ (n : Int)) = true := decide_eq_true (by omega)
  have dP : decide (0 ≤ (j : Int) ∧ (j : Int) ≤ (n : Int)) = true := decide_eq_true (by omega)
  simp only [hz, if_pos, var_f, or0_f, Option.bind_some, dV, dO, dP, refItv_f hn hx hi, show (((0 : Int) == 0) != true) = false from rfl, show (((1 : Int) == 0) != false) = false from rfl, if_neg Bool.false_ne_true, same_itv]
  refine Ev.bind (ev_refForget hn hx2 hi) ?_
  refine Ev.bind (sameSelf _ (fit_le hn (freeZ_fit hx2 i))) ?_
  simp only [if_pos]
  refine Ev.bind (ev_refLimit hn hx2 hi hj c) ?_
  refine Ev.bind (sameSelf _ (fit_le hn (limZ_fit hx2 i j c))) ?_
  simp only [if_pos]
  refine Ev.bind (ev_refLet hn hx hi hj c) ?_
  refine Ev.bind (sameSelf _ (fit_le hn (letZ_fit hx2 i j c))) ?_
  exact Ev.const rfl
theorem one_v2 {n : Nat} {xs : List Int} (hz : isZone (n : Int) xs = true) (hl : xs.length ≤ 200) {i : Nat} (hi : i ≤ n) (h1 : 1 ≤ i) {j : Int} (hj : j < 0 ∨ j > n) (c : Int) : Ev (fun k => warrantorlaw09_ZoneOne_v2.f k (n : Int) xs (i : Int) j c) true := by
  obtain ⟨hn, hx⟩ := zone_len hz
  have hx2 := (zone_fit hz).2
  have cL : code (n : Int) xs (i : Int) 0 j = 1 := code_zone hz (by omega)
  have cT : code (n : Int) xs (i : Int) 1 j = 1 := code_zone hz (by omega)
  unfold warrantorlaw09_ZoneOne_v2.f warrantorref08_Large.f
  simp only [Option.bind_some, show decide ((xs.length : Int) > 200) = false from decide_eq_false (by omega), if_neg Bool.false_ne_true]
  refine Ev.bind (ev_LimitE c (by rw [cL]; decide)) ?_
  refine Ev.bind (ev_Forget hz hi h1) ?_
  refine Ev.bind (ev_LetE c (by rw [cT]; decide)) ?_
  refine Ev.bind (ev_Itv hz hi) ?_
  refine Ev.bind ev_lives09 ?_
  simp only [if_pos]
  refine Ev.bind (ev_refCheck _ _ hl) ?_
  have dV : decide (1 ≤ (i : Int) ∧ (i : Int) ≤ (n : Int)) = true := decide_eq_true (by omega)
  have dO : decide (0 ≤ (i : Int) ∧ (i : Int) ≤ (n : Int)) = true := decide_eq_true (by omega)
  have dP : decide (0 ≤ j ∧ j ≤ (n : Int)) = false := decide_eq_false (by omega)
  simp only [hz, if_pos, var_f, or0_f, Option.bind_some, dV, dO, dP, refItv_f hn hx hi, cL, cT, show (((0 : Int) == 0) != true) = false from rfl, show (((1 : Int) == 0) != false) = false from rfl, if_neg Bool.false_ne_true, same_itv]
  refine Ev.bind (ev_refForget hn hx2 hi) ?_
  refine Ev.bind (sameSelf _ (fit_le hn (freeZ_fit hx2 i))) ?_
  simp only [if_pos]
  exact Ev.const rfl
theorem one_v3 {n : Nat} {xs : List Int} (hz : isZone (n : Int) xs = true) (hl : xs.length ≤ 200) {i j : Nat} (hi : i ≤ n) (h1 : i < 1) (hj : j ≤ n) (c : Int) : Ev (fun k => warrantorlaw09_ZoneOne_v3.f k (n : Int) xs (i : Int) (j : Int) c) true := by
  obtain ⟨hn, hx⟩ := zone_len hz
  have hx2 := (zone_fit hz).2
  have cF : code (n : Int) xs (i : Int) 1 0 = 1 := code_zone hz (by omega)
  have cT : code (n : Int) xs (i : Int) 1 (j : Int) = 1 := code_zone hz (by omega)
  unfold warrantorlaw09_ZoneOne_v3.f warrantorref08_Large.f
  simp only [Option.bind_some, show decide ((xs.length : Int) > 200) = false from decide_eq_false (by omega), if_neg Bool.false_ne_true]
  refine Ev.bind (ev_Limit hz hi hj c) ?_
  refine Ev.bind (ev_ForgetE (by rw [cF]; decide)) ?_
  refine Ev.bind (ev_LetE c (by rw [cT]; decide)) ?_
  refine Ev.bind (ev_Itv hz hi) ?_
  refine Ev.bind ev_lives09 ?_
  simp only [if_pos]
  refine Ev.bind (ev_refCheck _ _ hl) ?_
  have dV : decide (1 ≤ (i : Int) ∧ (i : Int) ≤ (n : Int)) = false := decide_eq_false (by omega)
  have dO : decide (0 ≤ (i : Int) ∧ (i : Int) ≤ (n : Int)) = true := decide_eq_true (by omega)
  have dP : decide (0 ≤ (j : Int) ∧ (j : Int) ≤ (n : Int)) = true := decide_eq_true (by omega)
  simp only [hz, if_pos, var_f, or0_f, Option.bind_some, dV, dO, dP, refItv_f hn hx hi, cF, cT, show (((0 : Int) == 0) != true) = false from rfl, show (((1 : Int) == 0) != false) = false from rfl, if_neg Bool.false_ne_true, same_itv]
  refine Ev.bind (ev_refLimit hn hx2 hi hj c) ?_
  refine Ev.bind (sameSelf _ (fit_le hn (limZ_fit hx2 i j c))) ?_
  simp only [if_pos]
  exact Ev.const rfl
theorem one_v4 {n : Nat} {xs : List Int} (hz : isZone (n : Int) xs = true) (hl : xs.length ≤ 200) {i : Nat} (hi : i ≤ n) (h1 : i < 1) {j : Int} (hj : j < 0 ∨ j > n) (c : Int) : Ev (fun k => warrantorlaw09_ZoneOne_v4.f k (n : Int) xs (i : Int) j c) true := by
  obtain ⟨hn, hx⟩ := zone_len hz
  have hx2 := (zone_fit hz).2
  have cL : code (n : Int) xs (i : Int) 0 j = 1 := code_zone hz (by omega)
  have cF : code (n : Int) xs (i : Int) 1 0 = 1 := code_zone hz (by omega)
  have cT : code (n : Int) xs (i : Int) 1 j = 1 := code_zone hz (by omega)
  unfold warrantorlaw09_ZoneOne_v4.f warrantorref08_Large.f
  simp only [Option.bind_some, show decide ((xs.length : Int) > 200) = false from decide_eq_false (by omega), if_neg Bool.false_ne_true]
  refine Ev.bind (ev_LimitE c (by rw [cL]; decide)) ?_
  refine Ev.bind (ev_ForgetE (by rw [cF]; decide)) ?_
  refine Ev.bind (ev_LetE c (by rw [cT]; decide)) ?_
  refine Ev.bind (ev_Itv hz hi) ?_
  refine Ev.bind ev_lives09 ?_
  simp only [if_pos]
  refine Ev.bind (ev_refCheck _ _ hl) ?_
  have dV : decide (1 ≤ (i : Int) ∧ (i : Int) ≤ (n : Int)) = false := decide_eq_false (by omega)
  have dO : decide (0 ≤ (i : Int) ∧ (i : Int) ≤ (n : Int)) = true := decide_eq_true (by omega)
  have dP : decide (0 ≤ j ∧ j ≤ (n : Int)) = false := decide_eq_false (by omega)
  simp only [hz, if_pos, var_f, or0_f, Option.bind_some, dV, dO, dP, refItv_f hn hx hi, cL, cF, cT, show (((0 : Int) == 0) != true) = false from rfl, show (((1 : Int) == 0) != false) = false from rfl, if_neg Bool.false_ne_true, same_itv]
  exact Ev.const rfl
theorem one_big {a : Int} {xs : List Int} {i j c : Int} (h : (xs.length : Int) > 200) : Ev (fun k => warrantorlaw09_ZoneOne_v0.f k a xs i j c) true := by
  unfold warrantorlaw09_ZoneOne_v0.f warrantorref08_Large.f
  simp only [Option.bind_some, h, decide_true, if_pos, Option.bind_fun_some]
  exact ev_lives09
theorem one_no {a : Int} {xs : List Int} {i j c : Int} (hl : xs.length ≤ 200) (hz : ¬ isZone a xs = true) : Ev (fun k => warrantorlaw09_ZoneOne_v0.f k a xs i j c) true := by
  unfold warrantorlaw09_ZoneOne_v0.f warrantorref08_Large.f
  simp only [Option.bind_some, show decide ((xs.length : Int) > 200) = false from decide_eq_false (by omega), if_neg Bool.false_ne_true]
  have e := code_no hz
  refine Ev.bind (ev_LimitE c (by rw [e]; decide)) ?_
  refine Ev.bind (ev_ForgetE (by rw [e]; decide)) ?_
  refine Ev.bind (ev_LetE c (by rw [e]; decide)) ?_
  refine Ev.bind (ev_ItvE (by rw [e]; decide)) ?_
  refine Ev.bind ev_lives09 ?_
  simp only [if_pos]
  refine Ev.bind (ev_refCheck _ _ hl) ?_
  simp only [hz, if_neg Bool.false_ne_true, e, if_pos, List.length_nil]
  exact Ev.const (by simp [w64 (x := 0) (by decide) (by decide)])
theorem one_arg {n : Nat} {xs : List Int} {i j c : Int} (hl : xs.length ≤ 200) (hz : isZone (n : Int) xs = true) (hi : i < 0 ∨ i > n) : Ev (fun k => warrantorlaw09_ZoneOne_v0.f k (n : Int) xs i j c) true := by
  unfold warrantorlaw09_ZoneOne_v0.f warrantorref08_Large.f
  simp only [Option.bind_some, show decide ((xs.length : Int) > 200) = false from decide_eq_false (by omega), if_neg Bool.false_ne_true]
  have cL : code (n : Int) xs i 0 j = 1 := code_zone hz (by omega)
  have cF : code (n : Int) xs i 1 0 = 1 := code_zone hz (by omega)
  have cT : code (n : Int) xs i 1 j = 1 := code_zone hz (by omega)
  have cI : code (n : Int) xs i 0 0 = 1 := code_zone hz (by omega)
  refine Ev.bind (ev_LimitE c (by rw [cL]; decide)) ?_
  refine Ev.bind (ev_ForgetE (by rw [cF]; decide)) ?_
  refine Ev.bind (ev_LetE c (by rw [cT]; decide)) ?_
  refine Ev.bind (ev_ItvE (by rw [cI]; decide)) ?_
  refine Ev.bind ev_lives09 ?_
  simp only [if_pos]
  refine Ev.bind (ev_refCheck _ _ hl) ?_
  have dV : decide (1 ≤ i ∧ i ≤ (n : Int)) = false := decide_eq_false (by omega)
  have dO : decide (0 ≤ i ∧ i ≤ (n : Int)) = false := decide_eq_false (by omega)
  simp only [hz, if_pos, var_f, or0_f, Option.bind_some, dV, dO, cL, cF, cT, cI, show (((1 : Int) == 0) != false) = false from rfl, if_neg Bool.false_ne_true]
  exact Ev.const rfl
theorem pure_ZoneOne : warrantorlaw09_ZoneOne.Pure := by
  intro a xs i j c _ _ _ _ _ _ _
  have get : ∀ {g : Nat → Option Bool}, Ev g true → ∃ k, g k = some true := fun h => h.get
  by_cases h1 : (xs.length : Int) > 200
  · obtain ⟨k, hk⟩ := (one_big (a := a) (i := i) (j := j) (c := c) h1).get
    exact ⟨k, .inl hk⟩
  · by_cases hz : isZone a xs = true
    · obtain ⟨n, rfl, hn⟩ := zone_nat hz
      by_cases hi : i < 0 ∨ i > n
      · obtain ⟨k, hk⟩ := (one_arg (j := j) (c := c) (show xs.length ≤ 200 by omega) hz hi).get
        exact ⟨k, .inl hk⟩
      · obtain ⟨p, rfl⟩ := Int.eq_ofNat_of_zero_le (show 0 ≤ i by omega)
        by_cases hp : 1 ≤ p <;> by_cases hj : j < 0 ∨ j > n
        · obtain ⟨k, hk⟩ := (one_v2 hz (show xs.length ≤ 200 by omega) (show p ≤ n by omega) hp hj c).get
          exact ⟨k, .inr (.inr (.inl hk))⟩
        · obtain ⟨q, rfl⟩ := Int.eq_ofNat_of_zero_le (show 0 ≤ j by omega)
          obtain ⟨k, hk⟩ := (one_v1 hz (show xs.length ≤ 200 by omega) (show p ≤ n by omega) hp (show q ≤ n by omega) c).get
          exact ⟨k, .inr (.inl hk)⟩
        · obtain ⟨k, hk⟩ := (one_v4 hz (show xs.length ≤ 200 by omega) (show p ≤ n by omega) (show p < 1 by omega) hj c).get
          exact ⟨k, .inr (.inr (.inr (.inr hk)))⟩
        · obtain ⟨q, rfl⟩ := Int.eq_ofNat_of_zero_le (show 0 ≤ j by omega)
          obtain ⟨k, hk⟩ := (one_v3 hz (show xs.length ≤ 200 by omega) (show p ≤ n by omega) (show p < 1 by omega) (show q ≤ n by omega) c).get
          exact ⟨k, .inr (.inr (.inr (.inl hk)))⟩
    · obtain ⟨k, hk⟩ := (one_no (i := i) (j := j) (c := c) (show xs.length ≤ 200 by omega) hz).get
      exact ⟨k, .inl hk⟩
end Go.Proofs.Ytgeemdpflcefkaa.DbmEv
namespace Go.Proofs.Ytgeemdpflcefkaa.Pure
open Go.RowKit Go.Proofs.Ytgeemdpflcefkaa.Z Go.Proofs.YtgeemdpflcefkaaW.PrintWords Go.Proofs.YtgeemdpflcefkaaW.PrintLast
theorem ZoneOne : warrantorlaw09_ZoneOne.Pure := DbmEv.pure_ZoneOne
end Go.Proofs.Ytgeemdpflcefkaa.Pure

import Derived.Test.YtpcpbeklaibdfaaCx0
import Derived.Test.YtpcpbeklaibdfaaCx2
namespace Go.Proofs.Ytpcpbeklaibdfaa.C
open Go.RowKit Go.Proofs.YtpcpbeklaibdfaaW.PrintWords Go.Proofs.YtpcpbeklaibdfaaW.PrintLast Go.Proofs.YtpcpbeklaibdfaaW.PrintMore
attribute [local go_sem] max2_int min2_int max_two min_two max_three min_three max_four min_four   -- for this text's walks alone
set_option linter.unusedVariables false
set_option linter.unusedSimpArgs false
/-- The place of the first element at which p holds, or -1. -/
def idxOf {α : Type} (p : α → Bool) : List α → Nat → Int
  | [], _ => -1
  | x :: l, i => if p x = true then (i : Int) else idxOf p l (i + 1)
theorem idxOf_any {α : Type} (p : α → Bool) : ∀ (l : List α) (i : Nat), decide (0 ≤ idxOf p l i) = l.any p
  | [], i => by simp [idxOf]
  | x :: l, i => by
    cases h : p x with
    | true =>
      simp only [idxOf, h, if_true, List.any_cons, Bool.true_or]
      exact decide_eq_true (Int.natCast_nonneg _)
    | false =>
      simp only [idxOf, h, List.any_cons, Bool.false_or]
      exact idxOf_any p l (i + 1)
theorem idxOf_drop {α : Type} (p : α → Bool) (l : List α) (i : Nat) (h : i < l.length) : idxOf p (l.drop i) i = if p l[i] = true then (i : Int) else idxOf p (l.drop (i + 1)) (i + 1) := by
  rw [List.drop_eq_getElem_cons h, idxOf]
set_option maxHeartbeats 8000000 in
set_option maxRecDepth 100000 in
theorem index_int_calls (fid : Nat) (lb : Array Value) (eg : ∀ args w, (callFunc fid args).run Try.prog w = .ok (.enter fid args) w) (p : Int → Bool) (A0 : Option Addr) (c0 : Nat) (l0 : List Int) (w : World)
    (hr0 : Kd.C (Kd.int .i64) w A0 l0.length l0) (hc0 : l0.length ≤ c0)
    (hp : ∀ (W : World) (x : Int), Below w.heap.size w W → Calls Try.prog fid (#[.int .i64 x] ++ lb) W fun e W' => e = .returned (.bool (p x)) ∧ Below W.heap.size W W') :
    Calls Try.prog 65 #[.slice A0 l0.length c0, .func (.func fid) #[] lb] w fun e w' => e = .returned (.int .i64 (idxOf p l0 0)) ∧ Below w.heap.size w w' := by
  have HR := Aside0.mk hr0
  have HM := Aside0.mk (Kd.C_max hr0)
  have HP := Aside0.mk hp
  have EG := Aside0.mk eg
  clear hr0 hp eg
  have hm : l0.length ≤ 9223372036854775807 := HM.out
  go_enter Try.func65, Try.ntmps65
  go_wp2
  go_loopg [8] l0.length (fun gg v8 wr => ∃ i : Nat, i ≤ l0.length ∧ v8 = .int .i64 i ∧ Aside0 (l0.length - i ≤ gg) ∧ Aside0 (idxOf p (l0.drop i) i = idxOf p l0 0) ∧ Aside0 (Below w.heap.size w wr))
  case atStart => exact ⟨0, Nat.zero_le _, rfl, ⟨by omega⟩, ⟨rfl⟩, ⟨Below.refl _ _⟩⟩
  case round =>
    obtain ⟨i, hi, rfl, HG, HD, HB⟩ := hrel
    by_cases hlt : i < l0.length
    rotate_left
    · have hltz : ¬ (i : Int) < (l0.length : Int) := by omega
      go_wp2
      go_ret
      refine ⟨?_, HB.out⟩
      rw [← HD.out, List.drop_of_length_le (by omega)]
      rfl
    have hltz : (i : Int) < (l0.length : Int) := by omega
    have hi0 : (0 : Int) ≤ (i : Int) := Int.natCast_nonneg _
    obtain ⟨ad, rfl, hcell⟩ := Kd.at_int (Kd.C_below HR.out HB.out) (i : Int) hi0 hltz
    rw [Int.toNat_natCast] at hcell
    have HX : Aside0 (rd l0 (i : Int) = l0[i]) := ⟨by simp [rd, List.getD_eq_getElem?_getD, List.getElem?_eq_getElem hlt]⟩
    have HQ := Aside0.mk (idxOf_drop p l0 i hlt)
    rw [HX.out] at hcell
    generalize l0[i] = x at hcell HQ
    clear HX
    have HC := HP.out wr x HB.out
    cases hpx : p x with
    | true =>
      rw [hpx] at HC
      have HPX := Aside0.mk hpx
      clear hpx
      have HC' := Aside0.mk HC
      clear HC
      go_wp2_with ((refine goesG_ (x := .tmp 11) lb #[.int .i64 x] (EG.out _ _) rfl rfl rfl (by rfl) (by first | rfl | (simp only [List.map_toArray, List.map_cons, List.map_nil]; rfl)) ?_); refine HC'.out.mono ?_; rintro e w5 ⟨rfl, hb⟩; refine ⟨_, rfl, ?_⟩)
      go_ret
      refine ⟨?_, below_step HB.out hb⟩
      rw [← HD.out, HQ.out, if_pos HPX.out]
      rfl
    | false =>
      rw [hpx] at HC
      have HPX := Aside0.mk hpx
      clear hpx
      have HC' := Aside0.mk HC
      clear HC
      go_wp2_with ((refine goesG_ (x := .tmp 11) lb #[.int .i64 x] (EG.out _ _) rfl rfl rfl (by rfl) (by first | rfl | (simp only [List.map_toArray, List.map_cons, List.map_nil]; rfl)) ?_); refine HC'.out.mono ?_; rintro e w5 ⟨rfl, hb⟩; refine ⟨_, rfl, ?_⟩)
      go_roundg (l0.length - (i + 1))
      case measure => have := HG.out; omega
      case rel =>
        refine ⟨i + 1, by omega, by go_num, ⟨by omega⟩, ⟨?_⟩, ⟨below_step HB.out hb⟩⟩
        rw [← HD.out, HQ.out, if_neg (by rw [HPX.out]; simp)]
end Go.Proofs.Ytpcpbeklaibdfaa.C

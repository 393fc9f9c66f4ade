import Derived.Test.YtpcpbeklaibdfaaCx0
import Derived.Test.YtpcpbeklaibdfaaCx2
import Derived.Test.YtpcpbeklaibdfaaCx20
namespace Go.Proofs.Ytpcpbeklaibdfaa.C
open Go.RowKit Go.Proofs.YtpcpbeklaibdfaaW.PrintWords Go.Proofs.YtpcpbeklaibdfaaW.PrintLast Go.Proofs.YtpcpbeklaibdfaaW.PrintMore
attribute [local go_sem] max2_int min2_int max_two min_two max_three min_three max_four min_four   -- for this text's walks alone
set_option linter.unusedVariables false
set_option linter.unusedSimpArgs false
theorem api_Spot_57.rd (l : List S53) (i : Nat) (h : i < l.length) : rd_T53 l (i : Int) = l[i] := by simp [rd_T53, List.getD_eq_getElem?_getD, List.getElem?_eq_getElem h]
set_option maxHeartbeats 8000000 in
set_option maxRecDepth 100000 in
theorem api_Spot_57.walk (fid : Nat) (lb : Array Value) (eg : ∀ args w, (callFunc fid args).run Try.prog w = .ok (.enter fid args) w) (p : S53 → Bool) (A0 : Option Addr) (c0 : Nat) (l0 : List S53) (w : World)
    (hr0 : Kd.C k53 w A0 l0.length l0) (hc0 : l0.length ≤ c0)
    (hp : ∀ (W : World) (x : S53), Below w.heap.size w W → Calls Try.prog fid (#[.agg #[.string x.f0, .string x.f1, .int .i64 x.f2]] ++ lb) W fun e W' => e = .returned (.bool (p x)) ∧ Below W.heap.size W W') :
    Calls Try.prog 57 #[.slice A0 l0.length c0, .func (.func fid) #[] lb] w fun e w' => e = .returned (.int .i64 (idxOf p l0 0)) ∧ Below w.heap.size w w' := by
  have hu := Try.underlying53
  have HR := Aside0.mk hr0
  have HM := Aside0.mk (Kd.C_max hr0)
  have HP := Aside0.mk hp
  have EG := Aside0.mk eg
  clear hr0 hp eg
  have hm : l0.length ≤ 9223372036854775807 := HM.out
  go_enter Try.func57, Try.ntmps57
  go_wp2
  go_loopg [8] l0.length (fun gg v8 wr => ∃ i : Nat, i ≤ l0.length ∧ v8 = .int .i64 i ∧ Aside0 (l0.length - i ≤ gg) ∧ Aside0 (idxOf p (l0.drop i) i = idxOf p l0 0) ∧ Aside0 (Below w.heap.size w wr))
  case atStart => exact ⟨0, Nat.zero_le _, rfl, ⟨by omega⟩, ⟨rfl⟩, ⟨Below.refl _ _⟩⟩
  case round =>
    obtain ⟨i, hi, rfl, HG, HD, HB⟩ := hrel
    by_cases hlt : i < l0.length
    rotate_left
    · have hltz : ¬ (i : Int) < (l0.length : Int) := by omega
      go_wp2
      go_ret
      refine ⟨?_, HB.out⟩
      rw [← HD.out, List.drop_of_length_le (by omega)]
      rfl
    have hltz : (i : Int) < (l0.length : Int) := by omega
    have hi0 : (0 : Int) ≤ (i : Int) := Int.natCast_nonneg _
    obtain ⟨ad, rfl, hx0, hx1, hx2⟩ := at_T53 (Kd.C_below HR.out HB.out) (i : Int) hi0 hltz
    rw [Int.toNat_natCast, api_Spot_57.rd l0 i hlt] at hx0 hx1 hx2
    have HQ := Aside0.mk (idxOf_drop p l0 i hlt)
    generalize l0[i] = x at hx0 hx1 hx2 HQ
    have HC := HP.out wr x HB.out
    cases hpx : p x with
    | true =>
      rw [hpx] at HC
      have HPX := Aside0.mk hpx
      clear hpx
      have HC' := Aside0.mk HC
      clear HC
      go_wp2_with ((refine goesG_ (x := .tmp 11) lb #[.agg #[.string x.f0, .string x.f1, .int .i64 x.f2]] (EG.out _ _) rfl rfl rfl (by rfl) (by first | rfl | (simp only [List.map_toArray, List.map_cons, List.map_nil]; rfl)) ?_); refine HC'.out.mono ?_; rintro e w5 ⟨rfl, hb⟩; refine ⟨_, rfl, ?_⟩)
      go_ret
      refine ⟨?_, below_step HB.out hb⟩
      rw [← HD.out, HQ.out, if_pos HPX.out]
      rfl
    | false =>
      rw [hpx] at HC
      have HPX := Aside0.mk hpx
      clear hpx
      have HC' := Aside0.mk HC
      clear HC
      go_wp2_with ((refine goesG_ (x := .tmp 11) lb #[.agg #[.string x.f0, .string x.f1, .int .i64 x.f2]] (EG.out _ _) rfl rfl rfl (by rfl) (by first | rfl | (simp only [List.map_toArray, List.map_cons, List.map_nil]; rfl)) ?_); refine HC'.out.mono ?_; rintro e w5 ⟨rfl, hb⟩; refine ⟨_, rfl, ?_⟩)
      go_roundg (l0.length - (i + 1))
      case measure => have := HG.out; omega
      case rel =>
        refine ⟨i + 1, by omega, by go_num, ⟨by omega⟩, ⟨?_⟩, ⟨below_step HB.out hb⟩⟩
        rw [← HD.out, HQ.out, if_neg (by rw [HPX.out]; simp)]
end Go.Proofs.Ytpcpbeklaibdfaa.C

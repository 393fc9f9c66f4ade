import Derived.Test.YtgeemdpflcefkaaRows
import Derived.Test.YtgeemdpflcefkaaYx36
import Derived.Test.YtgeemdpflcefkaaPurePostRises
import Derived.Test.YtgeemdpflcefkaaSRow
import Derived.WalkKit
import Derived.ProofKit
import Derived.OpenShut
import Derived.ShutString
import Derived.ChangeOld
import Derived.Below
import Derived.SizedLaws
namespace Go.Proofs.Ytgeemdpflcefkaa.postRises
open Go.ChangeShapes Go.WideShapes Go.ChangeAt Go.RowKit
open Go.ChangeMaps (open_string shut_string)
set_option linter.unusedVariables false
theorem laidOut : laidOutB Try.prog = true := by kernel_rfl
theorem own : ownKnob Try.prog.godebug = none := by kernel_rfl
set_option maxRecDepth 100000 in
theorem lifted (os : Os) (started : os.Started) (H : Type) (enc : TypeId × Value → H) :
    ReturnsInHanded {} Try.checked os 5 .any (Rows.postRisesSpec.pre6 enc Try.prog Try.f5 Rows.postRisesRow.domain false) (Rows.postRisesSpec.post enc Try.prog Try.f5 false true false false) := by
  refine returnsInHanded_of_change_sized (C := Try.checked) own started (by kernel_rfl) Try.func5
    (ChangeSpec.witness6 (enc := enc) (C := Try.checked) false ⟨#[], #[.agg #[.int .i64 0, .slice none 0 0], .agg #[.int .i64 0, .slice none 0 0], .agg #[.int .i64 0, .int .i64 0, .int .i64 0, .int .i64 0, .int .i64 0]], []⟩ 8 (by kernel_rfl) (by kernel_rfl) (by kernel_rfl) (by kernel_rfl)) ?_
  intro W base args ds gs before hval0 hW hcnd hsz0 _
  have hsz : (DataW.weightsEach Try.prog (Try.f5.params.toList ++ Rows.postRisesSpec.plain.varTypes Try.prog) (ds ++ gs)).all (· ≤ reachBytes) = true := hsz0
  have hval : ∀ (j : Nat) t v, Try.f5.params[j]? = some t → args[j]? = some v → Value.okWide Try.prog W .any base t v := hval0
  have hW' := hW
  obtain ⟨p, q, hA0, hV, rfl, hfz, hnd⟩ := hW
  have hA : DataW.TrodAll enc Try.prog W 0 (fun _ => true) true Try.f5.params.toList args.toList ds p := hA0
  rw [Try.params5] at hA hval hsz
  obtain ⟨v0, vs0, d0, ds0, p0, q0, hargs, rfl, rfl, h0, r0⟩ := trodAll_cons hA
  obtain ⟨v1, vs1, d1, ds1, p1, q1, rfl, rfl, rfl, h1, r1⟩ := trodAll_cons r0
  obtain ⟨v2, vs2, d2, ds2, p2, q2, rfl, rfl, rfl, h2, r2⟩ := trodAll_cons r1
  obtain ⟨rfl, rfl, rfl⟩ := trodAll_nil r2
  obtain rfl : args = #[v0, v1, v2] := by cases args; simp_all
  obtain ⟨rfl, rfl⟩ := trodVars_none hV
  obtain ⟨cs0, rfl, hz0⟩ := SRow.ok_agg Try.underlying24 (by kernel_rfl : Try.prog.cellsOf 24 = 2) (hval 0 24 v0 rfl rfl)
  obtain ⟨c0_0, c0_1, rfl⟩ := SRow.arr2 hz0
  have k0 := h0
  have lt0 : ∀ x ∈ p0, x.block < W.heap.size := by obtain ⟨m, hm⟩ := k0; exact DataW.trod_lt m _ _ _ hm
  have L0 := SRow.light_arg hsz (j := 0) (t := 24) rfl rfl
  obtain ⟨fuel0, hf0⟩ := h0
  obtain ⟨es0, n0, e0, F0⟩ := SRow.parts Try.underlying24 hf0
  obtain rfl : d0 = .agg es0 := e0
  obtain ⟨y0_0', g0_0, m0_0⟩ := F0 0 _ 1 rfl (by kernel_rfl)
  obtain ⟨a0_0, rfl, w0_0⟩ := SRow.cell_int (c := c0_0) Try.underlying3 g0_0
  obtain ⟨y0_1', g0_1, m0_1⟩ := F0 1 _ 1 rfl (by kernel_rfl)
  obtain ⟨a0_1, len0_1, cap0_1, z0_1, rfl, w0_1, y0_1⟩ := SRow.cell_ints (c := c0_1) (B := 8) Try.underlying22 Try.underlying3 (by kernel_rfl) (by kernel_rfl) g0_1 (SRow.light_part Try.underlying24 L0 rfl m0_1)
  obtain ⟨cs1, rfl, hz1⟩ := SRow.ok_agg Try.underlying24 (by kernel_rfl : Try.prog.cellsOf 24 = 2) (hval 1 24 v1 rfl rfl)
  obtain ⟨c1_0, c1_1, rfl⟩ := SRow.arr2 hz1
  have k1 := h1
  have lt1 : ∀ x ∈ p1, x.block < W.heap.size := by obtain ⟨m, hm⟩ := k1; exact DataW.trod_lt m _ _ _ hm
  have L1 := SRow.light_arg hsz (j := 1) (t := 24) rfl rfl
  obtain ⟨fuel1, hf1⟩ := h1
  obtain ⟨es1, n1, e1, F1⟩ := SRow.parts Try.underlying24 hf1
  obtain rfl : d1 = .agg es1 := e1
  obtain ⟨y1_0', g1_0, m1_0⟩ := F1 0 _ 1 rfl (by kernel_rfl)
  obtain ⟨a1_0, rfl, w1_0⟩ := SRow.cell_int (c := c1_0) Try.underlying3 g1_0
  obtain ⟨y1_1', g1_1, m1_1⟩ := F1 1 _ 1 rfl (by kernel_rfl)
  obtain ⟨a1_1, len1_1, cap1_1, z1_1, rfl, w1_1, y1_1⟩ := SRow.cell_ints (c := c1_1) (B := 8) Try.underlying22 Try.underlying3 (by kernel_rfl) (by kernel_rfl) g1_1 (SRow.light_part Try.underlying24 L1 rfl m1_1)
  obtain ⟨cs2, rfl, hz2⟩ := SRow.ok_agg Try.underlying26 (by kernel_rfl : Try.prog.cellsOf 26 = 5) (hval 2 26 v2 rfl rfl)
  obtain ⟨c2_0, c2_1, c2_2, c2_3, c2_4, rfl⟩ := SRow.arr5 hz2
  have k2 := h2
  have lt2 : ∀ x ∈ p2, x.block < W.heap.size := by obtain ⟨m, hm⟩ := k2; exact DataW.trod_lt m _ _ _ hm
  have L2 := SRow.light_arg hsz (j := 2) (t := 26) rfl rfl
  obtain ⟨fuel2, hf2⟩ := h2
  obtain ⟨es2, n2, e2, F2⟩ := SRow.parts Try.underlying26 hf2
  obtain rfl : d2 = .agg es2 := e2
  obtain ⟨y2_0', g2_0, m2_0⟩ := F2 0 _ 1 rfl (by kernel_rfl)
  obtain ⟨a2_0, rfl, w2_0⟩ := SRow.cell_int (c := c2_0) Try.underlying3 g2_0
  obtain ⟨y2_1', g2_1, m2_1⟩ := F2 1 _ 1 rfl (by kernel_rfl)
  obtain ⟨a2_1, rfl, w2_1⟩ := SRow.cell_int (c := c2_1) Try.underlying3 g2_1
  obtain ⟨y2_2', g2_2, m2_2⟩ := F2 2 _ 1 rfl (by kernel_rfl)
  obtain ⟨a2_2, rfl, w2_2⟩ := SRow.cell_int (c := c2_2) Try.underlying3 g2_2
  obtain ⟨y2_3', g2_3, m2_3⟩ := F2 3 _ 1 rfl (by kernel_rfl)
  obtain ⟨a2_3, rfl, w2_3⟩ := SRow.cell_int (c := c2_3) Try.underlying3 g2_3
  obtain ⟨y2_4', g2_4, m2_4⟩ := F2 4 _ 1 rfl (by kernel_rfl)
  obtain ⟨a2_4, rfl, w2_4⟩ := SRow.cell_int (c := c2_4) Try.underlying3 g2_4
  clear hA0 hval0 hsz0 hsz
  refine (Y.warrantorlaw14_PostRises.walk Pure.PostRises a0_0 a0_1 len0_1 cap0_1 z0_1 a1_0 a1_1 len1_1 cap1_1 z1_1 a2_0 a2_1 a2_2 a2_3 a2_4 W w0_0 w0_1 y0_1 w1_0 w1_1 y1_1 w2_0 w2_1 w2_2 w2_3 w2_4).mono fun e W' ⟨he, bel⟩ => ?_
  subst he
  exact ⟨_, rfl, _, _, _, [], _, [], hW', trodAll_mk1 (shut_bool Try.underlying4 _), (trodAll_cons_mk (Below.trod laidOut (by kernel_rfl) (of_decide_eq_true (by kernel_rfl)) k0 bel lt0) (trodAll_cons_mk (Below.trod laidOut (by kernel_rfl) (of_decide_eq_true (by kernel_rfl)) k1 bel lt1) (trodAll_cons_mk (Below.trod laidOut (by kernel_rfl) (of_decide_eq_true (by kernel_rfl)) k2 bel lt2) trodAll_mk0))), rfl, bel.frame _, fun h => by cases h⟩
theorem over : Rows.postRisesRow.holds Try.pinned (OpenSpec.ofChange Rows.postRisesSpec) :=
  OpenClaim.holds_of_wide 5 Try.f5 rfl rfl rfl rfl rfl rfl rfl ⟨rfl, rfl, rfl, rfl, rfl⟩ rfl rfl rfl rfl rfl (by kernel_rfl) Try.func5 (by kernel_rfl)
    (of_decide_eq_true (by kernel_rfl)) (by unfold Func.isWrapper; first | (rw [if_pos (by decide +kernel)]; kernel_rfl) | (rw [if_neg (by decide +kernel)]; exact ⟨rfl, rfl⟩))
    (fun os started H enc _ => lifted os started H enc)
theorem proved : Rows.PostRisesSaid := over
#print axioms proved
end Go.Proofs.Ytgeemdpflcefkaa.postRises
namespace Go.Proofs.Ytgeemdpflcefkaa
/-- The row, under a short name, for the claim. -/
theorem postRises_holds : Rows.PostRisesSaid := postRises.proved
end Go.Proofs.Ytgeemdpflcefkaa

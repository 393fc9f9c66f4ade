import Derived.Test.YtpcpbeklaibdfaaRows
import Derived.Test.YtpcpbeklaibdfaaCx45
import Derived.Test.YtpcpbeklaibdfaaPureRunSteps
import Derived.Test.YtpcpbeklaibdfaaSRow
import Derived.WalkKit
import Derived.ProofKit
import Derived.OpenShut
import Derived.ShutString
import Derived.ChangeOld
import Derived.Below
import Derived.SizedLaws
namespace Go.Proofs.Ytpcpbeklaibdfaa.runSteps
open Go.ChangeShapes Go.WideShapes Go.ChangeAt Go.RowKit
open Go.ChangeMaps (open_string shut_string)
set_option linter.unusedVariables false
theorem laidOut : laidOutB Try.prog = true := by kernel_rfl
theorem own : ownKnob Try.prog.godebug = none := by kernel_rfl
set_option maxRecDepth 100000 in
theorem lifted (os : Os) (started : os.Started) (H : Type) (enc : TypeId × Value → H) :
    ReturnsInHanded {} Try.checked os 3 .any (Rows.runStepsSpec.pre6 enc Try.prog Try.f3 Rows.runStepsRow.domain false) (Rows.runStepsSpec.post enc Try.prog Try.f3 false true false false) := by
  refine returnsInHanded_of_change_sized (C := Try.checked) own started (by kernel_rfl) Try.func3
    (ChangeSpec.witness6 (enc := enc) (C := Try.checked) false ⟨#[], #[.agg #[.string ByteArray.empty, .slice none 0 0, .slice none 0 0, .slice none 0 0], .agg #[.int .i64 0, .slice none 0 0], .agg #[.int .i64 0, .slice none 0 0], .agg #[.int .i64 0, .int .i64 0]], []⟩ 8 (by kernel_rfl) (by kernel_rfl) (by kernel_rfl) (by kernel_rfl)) ?_
  intro W base args ds gs before hval0 hW hcnd hsz0 _
  have hsz : (DataW.weightsEach Try.prog (Try.f3.params.toList ++ Rows.runStepsSpec.plain.varTypes Try.prog) (ds ++ gs)).all (· ≤ reachBytes) = true := hsz0
  have hval : ∀ (j : Nat) t v, Try.f3.params[j]? = some t → args[j]? = some v → Value.okWide Try.prog W .any base t v := hval0
  have hW' := hW
  obtain ⟨p, q, hA0, hV, rfl, hfz, hnd⟩ := hW
  have hA : DataW.TrodAll enc Try.prog W 0 (fun _ => true) true Try.f3.params.toList args.toList ds p := hA0
  rw [Try.params3] at hA hval hsz
  obtain ⟨v0, vs0, d0, ds0, p0, q0, hargs, rfl, rfl, h0, r0⟩ := trodAll_cons hA
  obtain ⟨v1, vs1, d1, ds1, p1, q1, rfl, rfl, rfl, h1, r1⟩ := trodAll_cons r0
  obtain ⟨v2, vs2, d2, ds2, p2, q2, rfl, rfl, rfl, h2, r2⟩ := trodAll_cons r1
  obtain ⟨v3, vs3, d3, ds3, p3, q3, rfl, rfl, rfl, h3, r3⟩ := trodAll_cons r2
  obtain ⟨rfl, rfl, rfl⟩ := trodAll_nil r3
  obtain rfl : args = #[v0, v1, v2, v3] := by cases args; simp_all
  obtain ⟨rfl, rfl⟩ := trodVars_none hV
  obtain ⟨cs0, rfl, hz0⟩ := SRow.ok_agg Try.underlying26 (by kernel_rfl : Try.prog.cellsOf 26 = 4) (hval 0 26 v0 rfl rfl)
  obtain ⟨c0_0, c0_1, c0_2, c0_3, rfl⟩ := SRow.arr4 hz0
  have k0 := h0
  have lt0 : ∀ x ∈ p0, x.block < W.heap.size := by obtain ⟨m, hm⟩ := k0; exact DataW.trod_lt m _ _ _ hm
  have L0 := SRow.light_arg hsz (j := 0) (t := 26) rfl rfl
  obtain ⟨fuel0, hf0⟩ := h0
  obtain ⟨es0, n0, e0, F0⟩ := SRow.parts Try.underlying26 hf0
  obtain rfl : d0 = .agg es0 := e0
  obtain ⟨y0_0', g0_0, m0_0⟩ := F0 0 _ 1 rfl (by kernel_rfl)
  obtain ⟨a0_0, rfl, w0_0⟩ := SRow.cell_string (c := c0_0) Try.underlying9 g0_0 (SRow.light_part Try.underlying26 L0 rfl m0_0)
  obtain ⟨y0_1', g0_1, m0_1⟩ := F0 1 _ 1 rfl (by kernel_rfl)
  obtain ⟨a0_1, cap0_1, l0_1, hv0_1, hc0_1, hx0_1, y0_1, hq0_1⟩ := SRow.cell_rows (α := ByteArray) (n := _) (B := 16) (m := 1) (fun s cs => Go.Proofs.YtpcpbeklaibdfaaW.PrintWords.Kd.K Go.Proofs.YtpcpbeklaibdfaaW.PrintWords.Kd.string W s cs ∧ s.size ≤ 140737488351232) Try.underlying22 (by kernel_rfl) (by kernel_rfl) (fun fuel cs y hcs ht hl => by
    obtain ⟨c0, rfl⟩ := SRow.lst1 hcs
    obtain ⟨s0, rfl, w0⟩ := SRow.cell_string (c := c0) Try.underlying9 ht hl
    exact ⟨s0, rfl, w0⟩) g0_1 (SRow.light_part Try.underlying26 L0 rfl m0_1)
  obtain rfl := hv0_1
  have hm0_1 : l0_1.length ≤ maxLen := Nat.le_trans hc0_1 hx0_1
  have hr0_1 : Go.Proofs.YtpcpbeklaibdfaaW.PrintWords.Kd.C Go.Proofs.YtpcpbeklaibdfaaW.PrintWords.Kd.string W a0_1 l0_1.length l0_1 := ⟨rfl, Nat.le_trans hm0_1 (by decide), fun hn => by
    obtain ⟨ad, e1, e2⟩ := hq0_1 hn
    exact ⟨ad, e1, fun j p hp => by
      obtain ⟨cs, z1, z2, z3⟩ := e2 j p hp
      exact ⟨cs, z1, z2.1, z3⟩⟩⟩
  have hw0_1 : ∀ x ∈ l0_1, x.size ≤ 140737488351232 := fun x hx => by
    obtain ⟨j, hj, rfl⟩ := List.getElem_of_mem hx
    obtain ⟨ad, _, e2⟩ := hq0_1 (by omega)
    obtain ⟨cs, _, z2, _⟩ := e2 j _ (List.getElem?_eq_getElem hj)
    exact z2.2
  obtain ⟨y0_2', g0_2, m0_2⟩ := F0 2 _ 1 rfl (by kernel_rfl)
  obtain ⟨a0_2, cap0_2, l0_2, hv0_2, hc0_2, hx0_2, y0_2, hq0_2⟩ := SRow.cell_rows (α := C.S53) (n := _) (B := 40) (m := 3) (fun s cs => Go.Proofs.YtpcpbeklaibdfaaW.PrintWords.Kd.K C.k53 W s cs ∧ s.f0.size ≤ 140737488351232 ∧ s.f1.size ≤ 140737488351232 ∧ (Lit.int .i64 s.f2).wf = true) Try.underlying23 (by kernel_rfl) (by kernel_rfl) (fun fuel cs y hcs ht hl => by
    obtain ⟨c0, c1, c2, rfl⟩ := SRow.lst3 hcs
    obtain ⟨es0, n0, e0, F0⟩ := SRow.parts Try.underlying53 ht
    have L0_ := hl
    rw [e0] at L0_
    obtain ⟨y0_0', g0_0, m0_0⟩ := F0 0 _ 1 rfl (by kernel_rfl)
    obtain ⟨s0, rfl, w0⟩ := SRow.cell_string (c := c0) Try.underlying9 g0_0 (SRow.light_part Try.underlying53 L0_ rfl m0_0)
    obtain ⟨y0_1', g0_1, m0_1⟩ := F0 1 _ 1 rfl (by kernel_rfl)
    obtain ⟨s1, rfl, w1⟩ := SRow.cell_string (c := c1) Try.underlying9 g0_1 (SRow.light_part Try.underlying53 L0_ rfl m0_1)
    obtain ⟨y0_2', g0_2, m0_2⟩ := F0 2 _ 1 rfl (by kernel_rfl)
    obtain ⟨s2, rfl, w2⟩ := SRow.cell_int (c := c2) Try.underlying3 g0_2
    exact ⟨(⟨s0, s1, s2⟩ : C.S53), C.k53_mk W (⟨s0, s1, s2⟩ : C.S53), w0, w1, w2⟩) g0_2 (SRow.light_part Try.underlying26 L0 rfl m0_2)
  obtain rfl := hv0_2
  have hm0_2 : l0_2.length ≤ maxLen := Nat.le_trans hc0_2 hx0_2
  have hr0_2 : Go.Proofs.YtpcpbeklaibdfaaW.PrintWords.Kd.C C.k53 W a0_2 l0_2.length l0_2 := ⟨rfl, Nat.le_trans hm0_2 (by decide), fun hn => by
    obtain ⟨ad, e1, e2⟩ := hq0_2 hn
    exact ⟨ad, e1, fun j p hp => by
      obtain ⟨cs, z1, z2, z3⟩ := e2 j p hp
      exact ⟨cs, z1, z2.1, z3⟩⟩⟩
  have hw0_2 : ∀ x ∈ l0_2, x.f0.size ≤ 140737488351232 ∧ x.f1.size ≤ 140737488351232 ∧ (Lit.int .i64 x.f2).wf = true := fun x hx => by
    obtain ⟨j, hj, rfl⟩ := List.getElem_of_mem hx
    obtain ⟨ad, _, e2⟩ := hq0_2 (by omega)
    obtain ⟨cs, _, z2, _⟩ := e2 j _ (List.getElem?_eq_getElem hj)
    exact z2.2
  obtain ⟨y0_3', g0_3, m0_3⟩ := F0 3 _ 1 rfl (by kernel_rfl)
  obtain ⟨a0_3, cap0_3, l0_3, hv0_3, hc0_3, hx0_3, y0_3, hq0_3⟩ := SRow.cell_rows (α := C.S57) (n := _) (B := 56) (m := 7) (fun s cs => Go.Proofs.YtpcpbeklaibdfaaW.PrintWords.Kd.K C.k57 W s cs ∧ (Lit.int .i64 s.f0).wf = true ∧ (Lit.int .i64 s.f1).wf = true ∧ (Lit.int .i64 s.f2.f0).wf = true ∧ (Lit.int .i64 s.f2.f1).wf = true ∧ (Lit.int .i64 s.f2.f2).wf = true ∧ (Lit.int .i64 s.f2.f3).wf = true ∧ (Lit.int .i64 s.f2.f4).wf = true) Try.underlying24 (by kernel_rfl) (by kernel_rfl) (fun fuel cs y hcs ht hl => by
    obtain ⟨c0, c1, c2, c3, c4, c5, c6, rfl⟩ := SRow.lst7 hcs
    obtain ⟨es0, n0, e0, F0⟩ := SRow.parts Try.underlying57 ht
    have L0_ := hl
    rw [e0] at L0_
    obtain ⟨y0_0', g0_0, m0_0⟩ := F0 0 _ 1 rfl (by kernel_rfl)
    obtain ⟨s0, rfl, w0⟩ := SRow.cell_int (c := c0) Try.underlying3 g0_0
    obtain ⟨y0_1', g0_1, m0_1⟩ := F0 1 _ 1 rfl (by kernel_rfl)
    obtain ⟨s1, rfl, w1⟩ := SRow.cell_int (c := c1) Try.underlying3 g0_1
    obtain ⟨y0_2', g0_2, m0_2⟩ := F0 2 _ 5 rfl (by kernel_rfl)
    obtain ⟨es1, n1, e1, F1⟩ := SRow.parts Try.underlying55 g0_2
    have L1_ := (SRow.light_part Try.underlying57 L0_ rfl m0_2)
    rw [e1] at L1_
    obtain ⟨y1_0', g1_0, m1_0⟩ := F1 0 _ 1 rfl (by kernel_rfl)
    obtain ⟨s2, rfl, w2⟩ := SRow.cell_int (c := c2) Try.underlying3 g1_0
    obtain ⟨y1_1', g1_1, m1_1⟩ := F1 1 _ 1 rfl (by kernel_rfl)
    obtain ⟨s3, rfl, w3⟩ := SRow.cell_int (c := c3) Try.underlying3 g1_1
    obtain ⟨y1_2', g1_2, m1_2⟩ := F1 2 _ 1 rfl (by kernel_rfl)
    obtain ⟨s4, rfl, w4⟩ := SRow.cell_int (c := c4) Try.underlying3 g1_2
    obtain ⟨y1_3', g1_3, m1_3⟩ := F1 3 _ 1 rfl (by kernel_rfl)
    obtain ⟨s5, rfl, w5⟩ := SRow.cell_int (c := c5) Try.underlying3 g1_3
    obtain ⟨y1_4', g1_4, m1_4⟩ := F1 4 _ 1 rfl (by kernel_rfl)
    obtain ⟨s6, rfl, w6⟩ := SRow.cell_int (c := c6) Try.underlying3 g1_4
    exact ⟨(⟨s0, s1, (⟨s2, s3, s4, s5, s6⟩ : C.S55)⟩ : C.S57), C.k57_mk W (⟨s0, s1, (⟨s2, s3, s4, s5, s6⟩ : C.S55)⟩ : C.S57), w0, w1, w2, w3, w4, w5, w6⟩) g0_3 (SRow.light_part Try.underlying26 L0 rfl m0_3)
  obtain rfl := hv0_3
  have hm0_3 : l0_3.length ≤ maxLen := Nat.le_trans hc0_3 hx0_3
  have hr0_3 : Go.Proofs.YtpcpbeklaibdfaaW.PrintWords.Kd.C C.k57 W a0_3 l0_3.length l0_3 := ⟨rfl, Nat.le_trans hm0_3 (by decide), fun hn => by
    obtain ⟨ad, e1, e2⟩ := hq0_3 hn
    exact ⟨ad, e1, fun j p hp => by
      obtain ⟨cs, z1, z2, z3⟩ := e2 j p hp
      exact ⟨cs, z1, z2.1, z3⟩⟩⟩
  have hw0_3 : ∀ x ∈ l0_3, (Lit.int .i64 x.f0).wf = true ∧ (Lit.int .i64 x.f1).wf = true ∧ (Lit.int .i64 x.f2.f0).wf = true ∧ (Lit.int .i64 x.f2.f1).wf = true ∧ (Lit.int .i64 x.f2.f2).wf = true ∧ (Lit.int .i64 x.f2.f3).wf = true ∧ (Lit.int .i64 x.f2.f4).wf = true := fun x hx => by
    obtain ⟨j, hj, rfl⟩ := List.getElem_of_mem hx
    obtain ⟨ad, _, e2⟩ := hq0_3 (by omega)
    obtain ⟨cs, _, z2, _⟩ := e2 j _ (List.getElem?_eq_getElem hj)
    exact z2.2
  obtain ⟨cs1, rfl, hz1⟩ := SRow.ok_agg Try.underlying29 (by kernel_rfl : Try.prog.cellsOf 29 = 2) (hval 1 29 v1 rfl rfl)
  obtain ⟨c1_0, c1_1, rfl⟩ := SRow.arr2 hz1
  have k1 := h1
  have lt1 : ∀ x ∈ p1, x.block < W.heap.size := by obtain ⟨m, hm⟩ := k1; exact DataW.trod_lt m _ _ _ hm
  have L1 := SRow.light_arg hsz (j := 1) (t := 29) rfl rfl
  obtain ⟨fuel1, hf1⟩ := h1
  obtain ⟨es1, n1, e1, F1⟩ := SRow.parts Try.underlying29 hf1
  obtain rfl : d1 = .agg es1 := e1
  obtain ⟨y1_0', g1_0, m1_0⟩ := F1 0 _ 1 rfl (by kernel_rfl)
  obtain ⟨a1_0, rfl, w1_0⟩ := SRow.cell_int (c := c1_0) Try.underlying3 g1_0
  obtain ⟨y1_1', g1_1, m1_1⟩ := F1 1 _ 1 rfl (by kernel_rfl)
  obtain ⟨a1_1, len1_1, cap1_1, z1_1, rfl, w1_1, y1_1⟩ := SRow.cell_ints (c := c1_1) (B := 8) Try.underlying27 Try.underlying3 (by kernel_rfl) (by kernel_rfl) g1_1 (SRow.light_part Try.underlying29 L1 rfl m1_1)
  obtain ⟨cs2, rfl, hz2⟩ := SRow.ok_agg Try.underlying29 (by kernel_rfl : Try.prog.cellsOf 29 = 2) (hval 2 29 v2 rfl rfl)
  obtain ⟨c2_0, c2_1, rfl⟩ := SRow.arr2 hz2
  have k2 := h2
  have lt2 : ∀ x ∈ p2, x.block < W.heap.size := by obtain ⟨m, hm⟩ := k2; exact DataW.trod_lt m _ _ _ hm
  have L2 := SRow.light_arg hsz (j := 2) (t := 29) rfl rfl
  obtain ⟨fuel2, hf2⟩ := h2
  obtain ⟨es2, n2, e2, F2⟩ := SRow.parts Try.underlying29 hf2
  obtain rfl : d2 = .agg es2 := e2
  obtain ⟨y2_0', g2_0, m2_0⟩ := F2 0 _ 1 rfl (by kernel_rfl)
  obtain ⟨a2_0, rfl, w2_0⟩ := SRow.cell_int (c := c2_0) Try.underlying3 g2_0
  obtain ⟨y2_1', g2_1, m2_1⟩ := F2 1 _ 1 rfl (by kernel_rfl)
  obtain ⟨a2_1, len2_1, cap2_1, z2_1, rfl, w2_1, y2_1⟩ := SRow.cell_ints (c := c2_1) (B := 8) Try.underlying27 Try.underlying3 (by kernel_rfl) (by kernel_rfl) g2_1 (SRow.light_part Try.underlying29 L2 rfl m2_1)
  obtain ⟨cs3, rfl, hz3⟩ := SRow.ok_agg Try.underlying31 (by kernel_rfl : Try.prog.cellsOf 31 = 2) (hval 3 31 v3 rfl rfl)
  obtain ⟨c3_0, c3_1, rfl⟩ := SRow.arr2 hz3
  have k3 := h3
  have lt3 : ∀ x ∈ p3, x.block < W.heap.size := by obtain ⟨m, hm⟩ := k3; exact DataW.trod_lt m _ _ _ hm
  have L3 := SRow.light_arg hsz (j := 3) (t := 31) rfl rfl
  obtain ⟨fuel3, hf3⟩ := h3
  obtain ⟨es3, n3, e3, F3⟩ := SRow.parts Try.underlying31 hf3
  obtain rfl : d3 = .agg es3 := e3
  obtain ⟨y3_0', g3_0, m3_0⟩ := F3 0 _ 1 rfl (by kernel_rfl)
  obtain ⟨a3_0, rfl, w3_0⟩ := SRow.cell_int (c := c3_0) Try.underlying3 g3_0
  obtain ⟨y3_1', g3_1, m3_1⟩ := F3 1 _ 1 rfl (by kernel_rfl)
  obtain ⟨a3_1, rfl, w3_1⟩ := SRow.cell_int (c := c3_1) Try.underlying3 g3_1
  clear hA0 hval0 hsz0 hsz
  refine (C.warrantorlaw13_RunSteps.walk Pure.RunSteps a0_0 _ _ l0_1 _ _ l0_2 _ _ l0_3 a1_0 a1_1 len1_1 cap1_1 z1_1 a2_0 a2_1 len2_1 cap2_1 z2_1 a3_0 a3_1 W w0_0 hr0_1 hc0_1 hm0_1 y0_1 hw0_1 hr0_2 hc0_2 hm0_2 y0_2 hw0_2 hr0_3 hc0_3 hm0_3 y0_3 hw0_3 w1_0 w1_1 y1_1 w2_0 w2_1 y2_1 w3_0 w3_1).mono fun e W' ⟨he, bel⟩ => ?_
  subst he
  exact ⟨_, rfl, _, _, _, [], _, [], hW', trodAll_mk1 (shut_bool Try.underlying4 _), (trodAll_cons_mk (Below.trod laidOut (by kernel_rfl) (of_decide_eq_true (by kernel_rfl)) k0 bel lt0) (trodAll_cons_mk (Below.trod laidOut (by kernel_rfl) (of_decide_eq_true (by kernel_rfl)) k1 bel lt1) (trodAll_cons_mk (Below.trod laidOut (by kernel_rfl) (of_decide_eq_true (by kernel_rfl)) k2 bel lt2) (trodAll_cons_mk (Below.trod laidOut (by kernel_rfl) (of_decide_eq_true (by kernel_rfl)) k3 bel lt3) trodAll_mk0)))), rfl, bel.frame _, fun h => by cases h⟩
theorem over : Rows.runStepsRow.holds Try.pinned (OpenSpec.ofChange Rows.runStepsSpec) :=
  OpenClaim.holds_of_wide 3 Try.f3 rfl rfl rfl rfl rfl rfl rfl ⟨rfl, rfl, rfl, rfl, rfl⟩ rfl rfl rfl rfl rfl (by kernel_rfl) Try.func3 (by kernel_rfl)
    (of_decide_eq_true (by kernel_rfl)) (by unfold Func.isWrapper; first | (rw [if_pos (by decide +kernel)]; kernel_rfl) | (rw [if_neg (by decide +kernel)]; exact ⟨rfl, rfl⟩))
    (fun os started H enc _ => lifted os started H enc)
theorem proved : Rows.RunStepsSaid := over
#print axioms proved
end Go.Proofs.Ytpcpbeklaibdfaa.runSteps
namespace Go.Proofs.Ytpcpbeklaibdfaa
/-- The row, under a short name, for the claim. -/
theorem runSteps_holds : Rows.RunStepsSaid := runSteps.proved
end Go.Proofs.Ytpcpbeklaibdfaa

import Derived.Test.YtgeemdpflcefkaaRows
import Derived.Test.YtgeemdpflcefkaaYx45
import Derived.Test.YtgeemdpflcefkaaPurePostBack
import Derived.Test.YtgeemdpflcefkaaSRow
import Derived.WalkKit
import Derived.ProofKit
import Derived.OpenShut
import Derived.ShutString
import Derived.ChangeOld
import Derived.Below
import Derived.SizedLaws
import Derived.Test.YtgeemdpflcefkaaWSized
namespace Go.Proofs.Ytgeemdpflcefkaa.postBack
open Go.ChangeShapes Go.WideShapes Go.ChangeAt Go.RowKit
open Go.ChangeMaps (open_string shut_string)
set_option linter.unusedVariables false
theorem own : ownKnob Try.prog.godebug = none := by kernel_rfl
theorem laidOut : laidOutB Try.prog = true := by kernel_rfl
def IsRow (k : IntKind) (w : World) (a : Option Addr) (len cap : Nat) (zs : List Int) : Prop :=
  (a = none ∧ len = 0 ∧ cap = 0 ∧ zs = []) ∨
  ∃ x, a = some x ∧ len ≤ cap ∧ cap ≤ maxLen ∧ zs.length = cap ∧ (∀ i, i < zs.length → w.cell? (x.add i) = some (.int k (zs.getD i 0))) ∧ ∀ n ∈ zs, (Lit.int k n).wf = true
set_option maxRecDepth 100000 in
theorem lifted (os : Os) (started : os.Started) (H : Type) (enc : TypeId × Value → H) :
    ReturnsInHanded {} Try.checked os 10 .any (Rows.postBackSpec.pre6 enc Try.prog Try.f10 Rows.postBackRow.domain false) (Rows.postBackSpec.post enc Try.prog Try.f10 false true false false) := by
  refine returnsInHanded_of_change_sized (C := Try.checked) own started (by kernel_rfl) Try.func10
    (ChangeSpec.witness6 (enc := enc) (C := Try.checked) false ⟨#[], #[.agg #[.int .i64 0, .slice none 0 0], .agg #[.int .i64 0, .int .i64 0, .int .i64 0, .int .i64 0, .int .i64 0], .slice none 0 0], []⟩ 8 (by kernel_rfl) (by kernel_rfl) (by kernel_rfl) (by kernel_rfl)) ?_
  intro W base args ds gs before hval0 hW hcnd hsz0 _
  have hsz : (DataW.weightsEach Try.prog (Try.f10.params.toList ++ Rows.postBackSpec.plain.varTypes Try.prog) (ds ++ gs)).all (· ≤ reachBytes) = true := hsz0
  have hval : ∀ (j : Nat) t v, Try.f10.params[j]? = some t → args[j]? = some v → Value.okWide Try.prog W .any base t v := hval0
  have hW' := hW
  obtain ⟨p, q, hA0, hV, rfl, hfz, hnd⟩ := hW
  have hA : DataW.TrodAll enc Try.prog W 0 (fun _ => true) true Try.f10.params.toList args.toList ds p := hA0
  rw [Try.params10] at hA hval hsz
  obtain ⟨v0, vs0, d0, ds0, p0, q0, hargs, rfl, rfl, h0, r0⟩ := trodAll_cons hA
  obtain ⟨v1, vs1, d1, ds1, p1, q1, rfl, rfl, rfl, h1, r1⟩ := trodAll_cons r0
  obtain ⟨v2, vs2, d2, ds2, p2, q2, rfl, rfl, rfl, h2, r2⟩ := trodAll_cons r1
  obtain ⟨rfl, rfl, rfl⟩ := trodAll_nil r2
  obtain rfl : args = #[v0, v1, v2] := by cases args; simp_all
  obtain ⟨rfl, rfl⟩ := trodVars_none hV
  obtain ⟨cs0, rfl, hz0⟩ := SRow.ok_agg Try.underlying24 (by kernel_rfl : Try.prog.cellsOf 24 = 2) (hval 0 24 v0 rfl rfl)
  obtain ⟨c0_0, c0_1, rfl⟩ := SRow.arr2 hz0
  have k0 := h0
  have lt0 : ∀ x ∈ p0, x.block < W.heap.size := by obtain ⟨m, hm⟩ := k0; exact DataW.trod_lt m _ _ _ hm
  have L0 := SRow.light_arg hsz (j := 0) (t := 24) rfl rfl
  obtain ⟨fuel0, hf0⟩ := h0
  obtain ⟨es0, n0, e0, F0⟩ := SRow.parts Try.underlying24 hf0
  obtain rfl : d0 = .agg es0 := e0
  obtain ⟨y0_0', g0_0, m0_0⟩ := F0 0 _ 1 rfl (by kernel_rfl)
  obtain ⟨a0_0, rfl, w0_0⟩ := SRow.cell_int (c := c0_0) Try.underlying3 g0_0
  obtain ⟨y0_1', g0_1, m0_1⟩ := F0 1 _ 1 rfl (by kernel_rfl)
  obtain ⟨a0_1, len0_1, cap0_1, z0_1, rfl, w0_1, y0_1⟩ := SRow.cell_ints (c := c0_1) (B := 8) Try.underlying22 Try.underlying3 (by kernel_rfl) (by kernel_rfl) g0_1 (SRow.light_part Try.underlying24 L0 rfl m0_1)
  obtain ⟨cs1, rfl, hz1⟩ := SRow.ok_agg Try.underlying26 (by kernel_rfl : Try.prog.cellsOf 26 = 5) (hval 1 26 v1 rfl rfl)
  obtain ⟨c1_0, c1_1, c1_2, c1_3, c1_4, rfl⟩ := SRow.arr5 hz1
  have k1 := h1
  have lt1 : ∀ x ∈ p1, x.block < W.heap.size := by obtain ⟨m, hm⟩ := k1; exact DataW.trod_lt m _ _ _ hm
  have L1 := SRow.light_arg hsz (j := 1) (t := 26) rfl rfl
  obtain ⟨fuel1, hf1⟩ := h1
  obtain ⟨es1, n1, e1, F1⟩ := SRow.parts Try.underlying26 hf1
  obtain rfl : d1 = .agg es1 := e1
  obtain ⟨y1_0', g1_0, m1_0⟩ := F1 0 _ 1 rfl (by kernel_rfl)
  obtain ⟨a1_0, rfl, w1_0⟩ := SRow.cell_int (c := c1_0) Try.underlying3 g1_0
  obtain ⟨y1_1', g1_1, m1_1⟩ := F1 1 _ 1 rfl (by kernel_rfl)
  obtain ⟨a1_1, rfl, w1_1⟩ := SRow.cell_int (c := c1_1) Try.underlying3 g1_1
  obtain ⟨y1_2', g1_2, m1_2⟩ := F1 2 _ 1 rfl (by kernel_rfl)
  obtain ⟨a1_2, rfl, w1_2⟩ := SRow.cell_int (c := c1_2) Try.underlying3 g1_2
  obtain ⟨y1_3', g1_3, m1_3⟩ := F1 3 _ 1 rfl (by kernel_rfl)
  obtain ⟨a1_3, rfl, w1_3⟩ := SRow.cell_int (c := c1_3) Try.underlying3 g1_3
  obtain ⟨y1_4', g1_4, m1_4⟩ := F1 4 _ 1 rfl (by kernel_rfl)
  obtain ⟨a1_4, rfl, w1_4⟩ := SRow.cell_int (c := c1_4) Try.underlying3 g1_4
  obtain ⟨a2, len2, cap2, rfl⟩ := okWide_slice Try.underlying22 (hval 2 22 v2 rfl rfl)
  have k2 := h2
  have lt2 : ∀ x ∈ p2, x.block < W.heap.size := by obtain ⟨m, hm⟩ := k2; exact DataW.trod_lt m _ _ _ hm
  obtain ⟨z2, w2⟩ : ∃ zs, IsRow .i64 W a2 len2 cap2 zs := by
    obtain ⟨fuel, hf⟩ := h2
    rcases open_ints Try.underlying22 Try.underlying3 (by kernel_rfl) hf with ⟨hcs, _⟩ | ⟨x, l, c, zs, hcs, _, hl, hm, hz, _, hcell, hwz⟩
    · simp [Value.cells] at hcs
      obtain ⟨rfl, rfl, rfl⟩ := hcs
      exact ⟨[], .inl ⟨rfl, rfl, rfl, rfl⟩⟩
    · simp [Value.cells] at hcs
      obtain ⟨rfl, rfl, rfl⟩ := hcs
      exact ⟨zs, .inr ⟨_, rfl, hl, hm, by simpa using hz, hcell, hwz⟩⟩
  have y2 : len2 * 8 ≤ 140737488351232 := Go.Proofs.YtgeemdpflcefkaaW.PrintWords.sized_ints hsz (j := 2) (t := 22) rfl rfl Try.underlying22 Try.underlying3 (by kernel_rfl) (by kernel_rfl) h2
  clear hA0 hval0 hsz0 hsz
  refine (Y.warrantorlaw14_PostBack.walk Pure.PostBack a0_0 a0_1 len0_1 cap0_1 z0_1 a1_0 a1_1 a1_2 a1_3 a1_4 a2 len2 cap2 z2 W w0_0 w0_1 y0_1 w1_0 w1_1 w1_2 w1_3 w1_4 w2 y2).mono fun e W' ⟨he, bel⟩ => ?_
  subst he
  exact ⟨_, rfl, _, _, _, [], _, [], hW', trodAll_mk1 (shut_bool Try.underlying4 _), (trodAll_cons_mk (Below.trod laidOut (by kernel_rfl) (of_decide_eq_true (by kernel_rfl)) k0 bel lt0) (trodAll_cons_mk (Below.trod laidOut (by kernel_rfl) (of_decide_eq_true (by kernel_rfl)) k1 bel lt1) (trodAll_cons_mk (Below.trod laidOut (by kernel_rfl) (of_decide_eq_true (by kernel_rfl)) k2 bel lt2) trodAll_mk0))), rfl, bel.frame _, fun h => by cases h⟩
theorem over : Rows.postBackRow.holds Try.pinned (OpenSpec.ofChange Rows.postBackSpec) :=
  OpenClaim.holds_of_wide 10 Try.f10 rfl rfl rfl rfl rfl rfl rfl ⟨rfl, rfl, rfl, rfl, rfl⟩ rfl rfl rfl rfl rfl (by kernel_rfl) Try.func10 (by kernel_rfl)
    (of_decide_eq_true (by kernel_rfl)) (by unfold Func.isWrapper; first | (rw [if_pos (by decide +kernel)]; kernel_rfl) | (rw [if_neg (by decide +kernel)]; exact ⟨rfl, rfl⟩))
    (fun os started H enc _ => lifted os started H enc)
theorem proved : Rows.PostBackSaid := over
#print axioms proved
end Go.Proofs.Ytgeemdpflcefkaa.postBack
namespace Go.Proofs.Ytgeemdpflcefkaa
/-- The row, under a short name, for the claim. -/
theorem postBack_holds : Rows.PostBackSaid := postBack.proved
end Go.Proofs.Ytgeemdpflcefkaa

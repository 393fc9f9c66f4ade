-- WRITTEN BY this session's program wip/ext.py, in print.py's manner
import Derived.Test.YtgeemdpflcefkaaRows
import Derived.Test.YtgeemdpflcefkaaZx45
import Derived.Test.YtgeemdpflcefkaaPureZoneBoxes
import Derived.Test.YtgeemdpflcefkaaSRow
import Derived.WalkKit
import Derived.ProofKit
import Derived.OpenShut
import Derived.ShutString
import Derived.ChangeOld
import Derived.Below
import Derived.SizedLaws
import Derived.Test.YtgeemdpflcefkaaWSized
namespace Go.Proofs.Ytgeemdpflcefkaa.zoneBoxes
open Go.ChangeShapes Go.WideShapes Go.ChangeAt Go.RowKit
open Go.ChangeMaps (open_string shut_string)
set_option linter.unusedVariables false
theorem own : ownKnob Try.prog.godebug = none := by kernel_rfl
theorem laidOut : laidOutB Try.prog = true := by kernel_rfl
def IsRow (k : IntKind) (w : World) (a : Option Addr) (len cap : Nat) (zs : List Int) : Prop :=
  (a = none ∧ len = 0 ∧ cap = 0 ∧ zs = []) ∨
  ∃ x, a = some x ∧ len ≤ cap ∧ cap ≤ maxLen ∧ zs.length = cap ∧ (∀ i, i < zs.length → w.cell? (x.add i) = some (.int k (zs.getD i 0))) ∧ ∀ n ∈ zs, (Lit.int k n).wf = true
set_option maxRecDepth 100000 in
theorem lifted (os : Os) (started : os.Started) (H : Type) (enc : TypeId × Value → H) :
    ReturnsInHanded {} Try.checked os 9 .any (Rows.zoneBoxesSpec.pre6 enc Try.prog Try.f9 Rows.zoneBoxesRow.domain false) (Rows.zoneBoxesSpec.post enc Try.prog Try.f9 false true false false) := by
  refine returnsInHanded_of_change_sized (C := Try.checked) own started (by kernel_rfl) Try.func9
    (ChangeSpec.witness6 (enc := enc) (C := Try.checked) false ⟨#[], #[.slice none 0 0, .slice none 0 0], []⟩ 8 (by kernel_rfl) (by kernel_rfl) (by kernel_rfl) (by kernel_rfl)) ?_
  intro W base args ds gs before hval0 hW hcnd hsz0 _
  have hsz : (DataW.weightsEach Try.prog (Try.f9.params.toList ++ Rows.zoneBoxesSpec.plain.varTypes Try.prog) (ds ++ gs)).all (· ≤ reachBytes) = true := hsz0
  have hval : ∀ (j : Nat) t v, Try.f9.params[j]? = some t → args[j]? = some v → Value.okWide Try.prog W .any base t v := hval0
  have hW' := hW
  obtain ⟨p, q, hA0, hV, rfl, hfz, hnd⟩ := hW
  have hA : DataW.TrodAll enc Try.prog W 0 (fun _ => true) true Try.f9.params.toList args.toList ds p := hA0
  rw [Try.params9] at hA hval hsz
  obtain ⟨v0, vs0, d0, ds0, p0, q0, hargs, rfl, rfl, h0, r0⟩ := trodAll_cons hA
  obtain ⟨v1, vs1, d1, ds1, p1, q1, rfl, rfl, rfl, h1, r1⟩ := trodAll_cons r0
  obtain ⟨rfl, rfl, rfl⟩ := trodAll_nil r1
  obtain rfl : args = #[v0, v1] := by cases args; simp_all
  obtain ⟨rfl, rfl⟩ := trodVars_none hV
  have k0 := h0
  have lt0 : ∀ x ∈ p0, x.block < W.heap.size := by obtain ⟨m, hm⟩ := k0; exact DataW.trod_lt m _ _ _ hm
  have L0 := SRow.light_arg hsz (j := 0) (t := 64) rfl rfl
  obtain ⟨fuel0, hf0⟩ := h0
  obtain ⟨q0a, q0b, q0c, rfl⟩ := okWide_slice Try.underlying64 (hval 0 64 v0 rfl rfl)
  obtain ⟨a0, cap0, l0, hv0, hc0, hx0, y0, hq0⟩ := SRow.cell_rows (α := Z.S39) (n := fuel0) (B := 16) (m := 2) (fun s cs => Go.Proofs.YtgeemdpflcefkaaW.PrintWords.Kd.K Z.k39 W s cs ∧ (Lit.int .i64 s.f0).wf = true ∧ (Lit.int .i64 s.f1).wf = true) Try.underlying64 (by kernel_rfl) (by kernel_rfl) (fun fuel cs y hcs ht hl => by
    obtain ⟨c0, c1, rfl⟩ := SRow.lst2 hcs
    obtain ⟨es, n, e, F⟩ := SRow.parts Try.underlying39 ht
    obtain ⟨y0', g0, m0⟩ := F 0 _ 1 rfl (by kernel_rfl)
    obtain ⟨s0, rfl, w0⟩ := SRow.cell_int (c := c0) Try.underlying3 g0
    obtain ⟨y1', g1, m1⟩ := F 1 _ 1 rfl (by kernel_rfl)
    obtain ⟨s1, rfl, w1⟩ := SRow.cell_int (c := c1) Try.underlying3 g1
    exact ⟨⟨s0, s1⟩, Z.k39_mk W ⟨s0, s1⟩, w0, w1⟩) hf0 L0
  obtain ⟨rfl, rfl, rfl⟩ := Value.slice.inj hv0
  have hm0 : l0.length ≤ maxLen := Nat.le_trans hc0 hx0
  have hr0 : Go.Proofs.YtgeemdpflcefkaaW.PrintWords.Kd.C Z.k39 W q0a l0.length l0 := ⟨rfl, Nat.le_trans hm0 (by decide), fun hn => by
    obtain ⟨ad, e1, e2⟩ := hq0 hn
    exact ⟨ad, e1, fun j p hp => by
      obtain ⟨cs, z1, z2, z3⟩ := e2 j p hp
      exact ⟨cs, z1, z2.1, z3⟩⟩⟩
  have hw0 : ∀ x ∈ l0, (Lit.int .i64 x.f0).wf = true ∧ (Lit.int .i64 x.f1).wf = true := fun x hx => by
    obtain ⟨j, hj, rfl⟩ := List.getElem_of_mem hx
    obtain ⟨ad, _, e2⟩ := hq0 (by omega)
    obtain ⟨cs, _, z2, _⟩ := e2 j _ (List.getElem?_eq_getElem hj)
    exact z2.2
  obtain ⟨a1, len1, cap1, rfl⟩ := okWide_slice Try.underlying22 (hval 1 22 v1 rfl rfl)
  have k1 := h1
  have lt1 : ∀ x ∈ p1, x.block < W.heap.size := by obtain ⟨m, hm⟩ := k1; exact DataW.trod_lt m _ _ _ hm
  obtain ⟨z1, w1⟩ : ∃ zs, IsRow .i64 W a1 len1 cap1 zs := by
    obtain ⟨fuel, hf⟩ := h1
    rcases open_ints Try.underlying22 Try.underlying3 (by kernel_rfl) hf with ⟨hcs, _⟩ | ⟨x, l, c, zs, hcs, _, hl, hm, hz, _, hcell, hwz⟩
    · simp [Value.cells] at hcs
      obtain ⟨rfl, rfl, rfl⟩ := hcs
      exact ⟨[], .inl ⟨rfl, rfl, rfl, rfl⟩⟩
    · simp [Value.cells] at hcs
      obtain ⟨rfl, rfl, rfl⟩ := hcs
      exact ⟨zs, .inr ⟨_, rfl, hl, hm, by simpa using hz, hcell, hwz⟩⟩
  have y1 : len1 * 8 ≤ 140737488351232 := Go.Proofs.YtgeemdpflcefkaaW.PrintWords.sized_ints hsz (j := 1) (t := 22) rfl rfl Try.underlying22 Try.underlying3 (by kernel_rfl) (by kernel_rfl) h1
  clear hA0 hval0 hsz0 hsz
  refine (Z.warrantorlaw09_ZoneBoxes.walk Pure.ZoneBoxes _ _ l0 a1 len1 cap1 z1 W hr0 hc0 hm0 y0 hw0 w1 y1).mono fun e W' ⟨he, bel⟩ => ?_
  subst he
  exact ⟨_, rfl, _, _, _, [], _, [], hW', trodAll_mk1 (shut_bool Try.underlying4 _), (trodAll_cons_mk (Below.trod laidOut (by kernel_rfl) (of_decide_eq_true (by kernel_rfl)) k0 bel lt0) (trodAll_cons_mk (Below.trod laidOut (by kernel_rfl) (of_decide_eq_true (by kernel_rfl)) k1 bel lt1) trodAll_mk0)), rfl, bel.frame _, fun h => by cases h⟩
theorem over : Rows.zoneBoxesRow.holds Try.pinned (OpenSpec.ofChange Rows.zoneBoxesSpec) :=
  OpenClaim.holds_of_wide 9 Try.f9 rfl rfl rfl rfl rfl rfl rfl ⟨rfl, rfl, rfl, rfl, rfl⟩ rfl rfl rfl rfl rfl (by kernel_rfl) Try.func9 (by kernel_rfl)
    (of_decide_eq_true (by kernel_rfl)) (by unfold Func.isWrapper; first | (rw [if_pos (by decide +kernel)]; kernel_rfl) | (rw [if_neg (by decide +kernel)]; exact ⟨rfl, rfl⟩))
    (fun os started H enc _ => lifted os started H enc)
theorem proved : Rows.ZoneBoxesSaid := over
#print axioms proved
end Go.Proofs.Ytgeemdpflcefkaa.zoneBoxes
namespace Go.Proofs.Ytgeemdpflcefkaa
/-- The row, under a short name, for the claim. -/
theorem zoneBoxes_holds : Rows.ZoneBoxesSaid := zoneBoxes.proved
end Go.Proofs.Ytgeemdpflcefkaa

/- rows over structs: what a struct that is handed in reads as, field by field -/
import Derived.ChangeArms
import Derived.ChangeSlices
import Derived.SizedLaws
import Derived.OpenShut
import Derived.DataElems
import Derived.WalkKit
namespace Go.Proofs.Ytgeemdpflcefkaa.SRow
open Go.ChangeShapes Go.WideShapes Go.RowKit
section
variable {H : Type} {enc : TypeId × Value → H} {P : Program} {W : World} {base : Nat} {sp : Nat → Bool} {held : Bool}
theorem ok_agg {t : TypeId} {fs : Array Field} {m : Nat} {r : Reach} {b0 : Nat} {v : Value} (hu : P.underlying t = some (.struct fs)) (hc : P.cellsOf t = m) (h : Value.okWide P W r b0 t v) : ∃ cs : Array Value, v = .agg cs ∧ cs.size = m := by
  simp only [Value.okWide, hu] at h
  obtain ⟨cs, h1, h2, _⟩ := h
  exact ⟨cs, h1, h2.trans hc⟩
theorem arr2 {cs : Array Value} (h : cs.size = 2) : ∃ a b, cs = #[a, b] := by
  obtain ⟨l⟩ := cs
  match l, h with
  | [a, b], _ => exact ⟨a, b, rfl⟩
theorem arr5 {cs : Array Value} (h : cs.size = 5) : ∃ a b c d e, cs = #[a, b, c, d, e] := by
  obtain ⟨l⟩ := cs
  match l, h with
  | [a, b, c, d, e], _ => exact ⟨a, b, c, d, e, rfl⟩
/-- The parts of a struct that is read. -/
theorem parts {t : TypeId} {fs : Array Field} {fuel : Nat} {cs : List Value} {x : DataW H × List MemPlace} (hu : P.underlying t = some (.struct fs)) (h : DataW.trod enc P W base sp held fuel t cs = some x) :
    ∃ (ds : List (DataW H)) (n : Nat), x.1 = .agg ds ∧ ∀ (i : Nat) (f : Field) (m : Nat), fs[i]? = some f → P.cellsOf f.type = m → ∃ y, DataW.trod enc P W base sp held n f.type ((cs.drop f.offset).take m) = some y ∧ ds[i]? = some y.1 := by
  obtain ⟨xs, n, _, rfl, _, hl, hf⟩ := DataW.trod_struct hu h
  refine ⟨xs.map (·.1), n, rfl, fun i f m hi hm => ?_⟩
  have h1 := hf i f hi
  have hlt : i < xs.length := by
    have := (Array.getElem?_eq_some_iff.1 hi).1
    omega
  rw [List.getElem?_eq_getElem hlt, hm] at h1
  exact ⟨xs[i], h1, by simp [hlt]⟩
theorem cell_int {t : TypeId} {k : IntKind} {n : Nat} {c : Value} {x : DataW H × List MemPlace} (hu : P.underlying t = some (.int k)) (h : DataW.trod enc P W base sp held n t [c] = some x) : ∃ z, c = .int k z ∧ (Lit.int k z).wf = true := by
  obtain ⟨z, h1, _, h2⟩ := DataW.trod_int hu h
  exact ⟨z, (List.cons.inj h1).1, h2⟩
/-- No part of a datum is heavier than the reach. -/
def Light (P : Program) (t : TypeId) (d : DataW H) : Prop := ∀ n ∈ d.weights P t, n ≤ reachBytes
theorem light_arg {ts : List TypeId} {ds : List (DataW H)} {j : Nat} {t : TypeId} {d : DataW H} (hsz : (DataW.weightsEach P ts ds).all (· ≤ reachBytes) = true) (ht : ts[j]? = some t) (hd : ds[j]? = some d) : Light P t d :=
  fun n hn => by simpa using List.all_eq_true.1 hsz _ (DataW.weights_mem_each ht hd n hn)
theorem light_part {t : TypeId} {fs : Array Field} {ds : List (DataW H)} {i : Nat} {f : Field} {d : DataW H} (hu : P.underlying t = some (.struct fs)) (h : Light P t (.agg ds)) (hi : fs[i]? = some f) (hd : ds[i]? = some d) : Light P f.type d := fun n hn => by
  refine h n ?_
  have e : (DataW.agg ds : DataW H).weights P t = DataW.weightsEach P (fs.toList.map (·.type)) ds := by simp [DataW.weights, hu]
  rw [e]
  exact DataW.weights_mem_each (j := i) (t := f.type) (by simp [hi]) hd n hn
theorem light_len {t e : TypeId} {ds rs : List (DataW H)} (hu : P.underlying t = some (.slice e)) (h : Light P t (.slice ds rs)) : (ds.length + rs.length) * P.bytesOf e ≤ reachBytes :=
  h _ (by simp [DataW.weights, hu])
/-- A row of whole numbers that came in. -/
def IsRow (k : IntKind) (w : World) (a : Option Addr) (len cap : Nat) (zs : List Int) : Prop :=
  (a = none ∧ len = 0 ∧ cap = 0 ∧ zs = []) ∨
  ∃ x, a = some x ∧ len ≤ cap ∧ cap ≤ maxLen ∧ zs.length = cap ∧ (∀ i, i < zs.length → w.cell? (x.add i) = some (.int k (zs.getD i 0))) ∧ ∀ n ∈ zs, (Lit.int k n).wf = true
theorem cell_ints {t e : TypeId} {k : IntKind} {n B : Nat} {c : Value} {x : DataW H × List MemPlace} (hu : P.underlying t = some (.slice e)) (he : P.underlying e = some (.int k)) (hc : P.cellsOf e = 1) (hB : P.bytesOf e = B)
    (h : DataW.trod enc P W base (fun _ => true) held n t [c] = some x) (hl : Light P t x.1) : ∃ a len cap zs, c = .slice a len cap ∧ IsRow k W a len cap zs ∧ len * B ≤ 140737488351232 := by
  rcases open_ints hu he hc h with ⟨hcs, _⟩ | ⟨y, l, cp, zs, hcs, _, hlen, hm, hz, rfl, hcell, hwz⟩
  · exact ⟨none, 0, 0, [], (List.cons.inj hcs).1, .inl ⟨rfl, rfl, rfl, rfl⟩, by simp⟩
  · have hz : zs.length = cp := by simpa using hz
    refine ⟨some y, l, cp, zs, (List.cons.inj hcs).1, .inr ⟨_, rfl, hlen, hm, hz, hcell, hwz⟩, ?_⟩
    have z := light_len hu hl
    rw [hB] at z
    have h1 : (lits (H := H) k (zs.take l)).length + (lits (H := H) k (zs.drop l)).length = zs.length := by
      simp [lits]
      omega
    rw [h1] at z
    exact Nat.le_trans (Nat.mul_le_mul_right _ (by omega)) z
end
end Go.Proofs.Ytgeemdpflcefkaa.SRow
namespace Go.Proofs.Ytgeemdpflcefkaa.SRow
open Go.ChangeShapes Go.WideShapes Go.RowKit
section
variable {H : Type} {enc : TypeId × Value → H} {P : Program} {W : World} {held : Bool}
end
end Go.Proofs.Ytgeemdpflcefkaa.SRow

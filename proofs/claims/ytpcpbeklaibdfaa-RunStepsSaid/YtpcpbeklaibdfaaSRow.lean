/- rows over structs: what a struct that is handed in reads as, field by field -/
import Derived.ChangeArms
import Derived.ChangeSlices
import Derived.SizedLaws
import Derived.OpenShut
import Derived.DataElems
import Derived.WalkKit
namespace Go.Proofs.Ytpcpbeklaibdfaa.SRow
open Go.ChangeShapes Go.WideShapes Go.RowKit
section
variable {H : Type} {enc : TypeId × Value → H} {P : Program} {W : World} {base : Nat} {sp : Nat → Bool} {held : Bool}
theorem ok_agg {t : TypeId} {fs : Array Field} {m : Nat} {r : Reach} {b0 : Nat} {v : Value} (hu : P.underlying t = some (.struct fs)) (hc : P.cellsOf t = m) (h : Value.okWide P W r b0 t v) : ∃ cs : Array Value, v = .agg cs ∧ cs.size = m := by
  simp only [Value.okWide, hu] at h
  obtain ⟨cs, h1, h2, _⟩ := h
  exact ⟨cs, h1, h2.trans hc⟩
theorem lst1 {cs : List Value} (h : cs.length = 1) : ∃ a, cs = [a] := by
  match cs, h with
  | [a], _ => exact ⟨a, rfl⟩
theorem lst3 {cs : List Value} (h : cs.length = 3) : ∃ a b c, cs = [a, b, c] := by
  match cs, h with
  | [a, b, c], _ => exact ⟨a, b, c, rfl⟩
theorem lst7 {cs : List Value} (h : cs.length = 7) : ∃ a b c d e f g, cs = [a, b, c, d, e, f, g] := by
  match cs, h with
  | [a, b, c, d, e, f, g], _ => exact ⟨a, b, c, d, e, f, g, rfl⟩
theorem arr2 {cs : Array Value} (h : cs.size = 2) : ∃ a b, cs = #[a, b] := by
  obtain ⟨l⟩ := cs
  match l, h with
  | [a, b], _ => exact ⟨a, b, rfl⟩
theorem arr4 {cs : Array Value} (h : cs.size = 4) : ∃ a b c d, cs = #[a, b, c, d] := by
  obtain ⟨l⟩ := cs
  match l, h with
  | [a, b, c, d], _ => exact ⟨a, b, c, d, rfl⟩
/-- The parts of a struct that is read. -/
theorem parts {t : TypeId} {fs : Array Field} {fuel : Nat} {cs : List Value} {x : DataW H × List MemPlace} (hu : P.underlying t = some (.struct fs)) (h : DataW.trod enc P W base sp held fuel t cs = some x) :
    ∃ (ds : List (DataW H)) (n : Nat), x.1 = .agg ds ∧ ∀ (i : Nat) (f : Field) (m : Nat), fs[i]? = some f → P.cellsOf f.type = m → ∃ y, DataW.trod enc P W base sp held n f.type ((cs.drop f.offset).take m) = some y ∧ ds[i]? = some y.1 := by
  obtain ⟨xs, n, _, rfl, _, hl, hf⟩ := DataW.trod_struct hu h
  refine ⟨xs.map (·.1), n, rfl, fun i f m hi hm => ?_⟩
  have h1 := hf i f hi
  have hlt : i < xs.length := by
    have := (Array.getElem?_eq_some_iff.1 hi).1
    omega
  rw [List.getElem?_eq_getElem hlt, hm] at h1
  exact ⟨xs[i], h1, by simp [hlt]⟩
theorem cell_int {t : TypeId} {k : IntKind} {n : Nat} {c : Value} {x : DataW H × List MemPlace} (hu : P.underlying t = some (.int k)) (h : DataW.trod enc P W base sp held n t [c] = some x) : ∃ z, c = .int k z ∧ (Lit.int k z).wf = true := by
  obtain ⟨z, h1, _, h2⟩ := DataW.trod_int hu h
  exact ⟨z, (List.cons.inj h1).1, h2⟩
/-- No part of a datum is heavier than the reach. -/
def Light (P : Program) (t : TypeId) (d : DataW H) : Prop := ∀ n ∈ d.weights P t, n ≤ reachBytes
theorem light_arg {ts : List TypeId} {ds : List (DataW H)} {j : Nat} {t : TypeId} {d : DataW H} (hsz : (DataW.weightsEach P ts ds).all (· ≤ reachBytes) = true) (ht : ts[j]? = some t) (hd : ds[j]? = some d) : Light P t d :=
  fun n hn => by simpa using List.all_eq_true.1 hsz _ (DataW.weights_mem_each ht hd n hn)
theorem light_part {t : TypeId} {fs : Array Field} {ds : List (DataW H)} {i : Nat} {f : Field} {d : DataW H} (hu : P.underlying t = some (.struct fs)) (h : Light P t (.agg ds)) (hi : fs[i]? = some f) (hd : ds[i]? = some d) : Light P f.type d := fun n hn => by
  refine h n ?_
  have e : (DataW.agg ds : DataW H).weights P t = DataW.weightsEach P (fs.toList.map (·.type)) ds := by simp [DataW.weights, hu]
  rw [e]
  exact DataW.weights_mem_each (j := i) (t := f.type) (by simp [hi]) hd n hn
theorem mem_all {e : TypeId} : ∀ {ds : List (DataW H)} {d : DataW H}, d ∈ ds → ∀ n ∈ d.weights P e, n ∈ DataW.weightsAll P e ds
  | a :: r, d, hd, n, hn => by
    simp only [DataW.weightsAll, List.mem_append]
    rcases List.mem_cons.1 hd with rfl | h
    · exact .inl hn
    · exact .inr (mem_all h n hn)
theorem light_elem {t e : TypeId} {ds rs : List (DataW H)} {d : DataW H} (hu : P.underlying t = some (.slice e)) (h : Light P t (.slice ds rs)) (hd : d ∈ ds) : Light P e d := fun n hn => by
  refine h n ?_
  simp only [DataW.weights, hu, List.mem_cons, List.mem_append]
  exact .inr (.inl (mem_all hd n hn))
theorem light_len {t e : TypeId} {ds rs : List (DataW H)} (hu : P.underlying t = some (.slice e)) (h : Light P t (.slice ds rs)) : (ds.length + rs.length) * P.bytesOf e ≤ reachBytes :=
  h _ (by simp [DataW.weights, hu])
theorem cell_string {t : TypeId} {n : Nat} {c : Value} {x : DataW H × List MemPlace} (hu : P.underlying t = some .string) (h : DataW.trod enc P W base sp held n t [c] = some x) (hl : Light P t x.1) : ∃ s : ByteArray, c = .string s ∧ s.size ≤ 140737488351232 := by
  obtain ⟨s, h1, rfl, _⟩ := DataW.trod_string hu h
  refine ⟨s, (List.cons.inj h1).1, ?_⟩
  have := hl s.data.toList.length (by simp [DataW.weights])
  rw [Array.length_toList] at this
  exact this
/-- A row of whole numbers that came in. -/
def IsRow (k : IntKind) (w : World) (a : Option Addr) (len cap : Nat) (zs : List Int) : Prop :=
  (a = none ∧ len = 0 ∧ cap = 0 ∧ zs = []) ∨
  ∃ x, a = some x ∧ len ≤ cap ∧ cap ≤ maxLen ∧ zs.length = cap ∧ (∀ i, i < zs.length → w.cell? (x.add i) = some (.int k (zs.getD i 0))) ∧ ∀ n ∈ zs, (Lit.int k n).wf = true
theorem cell_ints {t e : TypeId} {k : IntKind} {n B : Nat} {c : Value} {x : DataW H × List MemPlace} (hu : P.underlying t = some (.slice e)) (he : P.underlying e = some (.int k)) (hc : P.cellsOf e = 1) (hB : P.bytesOf e = B)
    (h : DataW.trod enc P W base (fun _ => true) held n t [c] = some x) (hl : Light P t x.1) : ∃ a len cap zs, c = .slice a len cap ∧ IsRow k W a len cap zs ∧ len * B ≤ 140737488351232 := by
  rcases open_ints hu he hc h with ⟨hcs, _⟩ | ⟨y, l, cp, zs, hcs, _, hlen, hm, hz, rfl, hcell, hwz⟩
  · exact ⟨none, 0, 0, [], (List.cons.inj hcs).1, .inl ⟨rfl, rfl, rfl, rfl⟩, by simp⟩
  · have hz : zs.length = cp := by simpa using hz
    refine ⟨some y, l, cp, zs, (List.cons.inj hcs).1, .inr ⟨_, rfl, hlen, hm, hz, hcell, hwz⟩, ?_⟩
    have z := light_len hu hl
    rw [hB] at z
    have h1 : (lits (H := H) k (zs.take l)).length + (lits (H := H) k (zs.drop l)).length = zs.length := by
      simp [lits]
      omega
    rw [h1] at z
    exact Nat.le_trans (Nat.mul_le_mul_right _ (by omega)) z
end
end Go.Proofs.Ytpcpbeklaibdfaa.SRow
namespace Go.Proofs.Ytpcpbeklaibdfaa.SRow
open Go.ChangeShapes Go.WideShapes Go.RowKit
theorem exists_list {α : Type} {Q : Nat → α → Prop} : ∀ (n : Nat), (∀ i, i < n → ∃ x, Q i x) → ∃ l : List α, l.length = n ∧ ∀ i x, l[i]? = some x → Q i x
  | 0, _ => ⟨[], rfl, fun i x h => by simp at h⟩
  | n + 1, h => by
    obtain ⟨l, hl, hq⟩ := exists_list n (fun i hi => h i (by omega))
    obtain ⟨x, hx⟩ := h n (by omega)
    refine ⟨l ++ [x], by simp [hl], fun i y hy => ?_⟩
    rcases Nat.lt_or_ge i n with h1 | h1
    · rw [List.getElem?_append_left (by omega)] at hy; exact hq i y hy
    · rw [List.getElem?_append_right (by omega)] at hy
      obtain rfl : i = n := by
        rcases Nat.lt_or_ge n i with h2 | h2
        · rw [hl, List.getElem?_eq_none (by simp; omega)] at hy; cases hy
        · omega
      rw [hl, Nat.sub_self] at hy
      simp at hy
      rw [← hy]; exact hx
section
variable {H : Type} {enc : TypeId × Value → H} {P : Program} {W : World} {held : Bool}
/-- A row of structs that came in: each is read as some element of the row's pure list. -/
theorem cell_rows {α : Type} {t e : TypeId} {m n B : Nat} {c : Value} {x : DataW H × List MemPlace} (Q : α → List Value → Prop) (hu : P.underlying t = some (.slice e)) (hc : P.cellsOf e = m) (hB : P.bytesOf e = B)
    (hQ : ∀ (fuel : Nat) (cs : List Value) (y : DataW H × List MemPlace), cs.length = m → DataW.trod enc P W 0 (fun _ => true) held fuel e cs = some y → Light P e y.1 → ∃ s : α, Q s cs)
    (h : DataW.trod enc P W 0 (fun _ => true) held n t [c] = some x) (hl : Light P t x.1) :
    ∃ (a : Option Addr) (cap : Nat) (l : List α), c = .slice a l.length cap ∧ l.length ≤ cap ∧ cap ≤ maxLen ∧ l.length * B ≤ 140737488351232 ∧
      (0 < l.length → ∃ ad, a = some ad ∧ ∀ j p, l[j]? = some p → ∃ cs, cs.length = m ∧ Q p cs ∧ ∀ i u, cs[i]? = some u → W.cell? (ad.add (j * m + i)) = some u) := by
  rcases DataW.trod_slice hu h with ⟨h0, _⟩ | ⟨a, len, cap, elems, rest, n', _, h0, rfl, _, hlen, hcap, hel, hget, _, _⟩
  · exact ⟨none, 0, [], (List.cons.inj h0).1, by simp, by simp [maxLen], by simp, fun h => absurd h (by simp)⟩
  · obtain ⟨l, hll, hlq⟩ : ∃ l : List α, l.length = len ∧ ∀ i s, l[i]? = some s → ∃ cs, cs.length = m ∧ Q s cs ∧ ∀ j u, cs[j]? = some u → W.cell? (a.add (i * m + j)) = some u := by
      refine exists_list len fun i hi => ?_
      have h1 := hget i hi
      have hi2 : i < elems.length := by omega
      rw [List.getElem?_eq_getElem hi2, hc] at h1
      obtain ⟨cs, h2, h3⟩ := Option.bind_eq_some_iff.1 h1
      obtain ⟨_, h4, h5⟩ := World.cells?_some h2
      have hly : Light P e (elems[i]).1 := light_elem hu hl (List.mem_map.2 ⟨_, List.getElem_mem hi2, rfl⟩)
      obtain ⟨s, hs⟩ := hQ n' cs _ h4 h3 hly
      refine ⟨s, cs, h4, hs, fun j u hj => ?_⟩
      have hjl : j < m := by
        have := (List.getElem?_eq_some_iff.1 hj).1
        omega
      rw [← Addr.add_add, h5 j hjl, hj]
    refine ⟨some a, cap, l, by rw [(List.cons.inj h0).1, hll], by omega, hcap, ?_, fun _ => ⟨a, rfl, hlq⟩⟩
    have z := light_len hu hl
    rw [hB] at z
    refine Nat.le_trans (Nat.mul_le_mul_right _ ?_) z
    simp
    omega
end
end Go.Proofs.Ytpcpbeklaibdfaa.SRow

import Derived.Test.YtpcpbeklaibdfaaCx0
namespace Go.Proofs.Ytpcpbeklaibdfaa.C
open Go.RowKit Go.Proofs.YtpcpbeklaibdfaaW.PrintWords Go.Proofs.YtpcpbeklaibdfaaW.PrintLast Go.Proofs.YtpcpbeklaibdfaaW.PrintMore
attribute [local go_sem] max2_int min2_int max_two min_two max_three min_three max_four min_four   -- for this text's walks alone
set_option linter.unusedVariables false
set_option linter.unusedSimpArgs false
/-! A map of the call's own that counts: what it tells of each key. -/
def seen (P : Program) (K E : TypeId) (w : World) (b n : Nat) (cnt : Lit → Int) : Prop :=
  ∃ D : DataW Unit, w.ownsMap P K (plainElem P E) b n D ∧ ∀ kl, D.atKey kl (.lit (.int .i64 0)) = .lit (.int .i64 (cnt kl))
section
variable {P : Program} {K E : TypeId} {w : World} {b n : Nat} {cnt : Lit → Int}
theorem seen_made (w : World) : seen P K E (w.alloc (.map #[] 0)) w.heap.size 0 (fun _ => 0) := ⟨.map [], World.ownsMap_made _ _ _ _, fun _ => rfl⟩
theorem seen.below {w' : World} (h : seen P K E w b n cnt) (hb : Below w.heap.size w w') : seen P K E w' b n cnt := by
  obtain ⟨D, hown, hc⟩ := h
  have hlt := hown.lt
  obtain ⟨es, clock, h1, F, hs, hD⟩ := hown
  exact ⟨D, ⟨es, clock, (hb.block b hlt).trans h1, F, hs, hD⟩, hc⟩
theorem seen.lt (h : seen P K E w b n cnt) : b < w.heap.size := by
  obtain ⟨D, hown, hc⟩ := h
  exact hown.lt
theorem seen.len (h : seen P K E w b n cnt) : 0 ≤ n := Nat.zero_le _
theorem seen_look {ops : Array Oper} {rest : List Oper} {o : Oper} {a : Act} {Q : Exit → Act → World → Prop} (hg : o.guard = none) (m x : Operand) (t : TypeId) (hop : o.op = Op.lookup t m x false)
    (law : Go.Maps.Keyed P K) (ht : P.underlying t = some (.map K E)) (he : P.underlying E = some (.int .i64)) (hz : (zeroValue E).run P w = .ok (.int .i64 0) w) (kl : Lit)
    (hm : a.eval m = .map (some b)) (hown : Aside0 (seen P K E w b n cnt)) (key : Value) (hx : a.eval x = key) (hkey : keyOf P K key = some kl)
    (hK : wpList P ops Q rest (a.put o.dst (.int .i64 (cnt kl))) w) : wpList P ops Q (o :: rest) a w := by
  obtain ⟨D, ho, hc⟩ := hown.out
  refine wpList_lookup_own_int w hg m x t hop K E .i64 law ht he hz b n D hm ho key kl hx hkey (fun c hat _ => ?_)
  rw [hc kl] at hat
  injection hat with hat
  injection hat with _ hat
  rw [← hat]
  exact hK
theorem seen_put {ops : Array Oper} {rest : List Oper} {o : Oper} {a : Act} {Q : Exit → Act → World → Prop} (hg : o.guard = none) (m x v : Operand) (t : TypeId) (hop : o.op = Op.mapUpdate t m x v ∨ o.op = Op.insert t m x v)
    (law : Go.Maps.Keyed P K) (ht : P.underlying t = some (.map K E)) (he : P.underlying E = some (.int .i64)) (kl : Lit) (cnt' : Lit → Int) (c : Int)
    (hm : a.eval m = .map (some b)) (hown : Aside0 (seen P K E w b n cnt)) (hn : n < maxLen) (key : Value) (hx : a.eval x = key) (hkey : keyOf P K key = some kl) (hil : Go.WideAt.IsKeyLit kl) (hv : a.eval v = .int .i64 c) (hw : (Lit.int .i64 c).wf = true)
    (h1 : cnt' kl = c) (h2 : ∀ kl', kl' ≠ kl → cnt' kl' = cnt kl')
    (hK : ∀ w', Aside0 (seen P K E w' b (n + 1) cnt') → w.grownBy w' (some b) → wpList P ops Q rest (a.put o.dst undef) w') : wpList P ops Q (o :: rest) a w := by
  obtain ⟨D, ho, hc⟩ := hown.out
  obtain ⟨w', hrun, r1, r2⟩ := ho.update law ht hn hkey (plainElem_int he hw)
  refine wpList_plain hg fun K' hK' => ?_
  have hfin := hK w' ⟨D.put kl (.lit (.int .i64 c)), r1, fun kl' => by
    by_cases e : kl' = kl
    · subst e; rw [h1]; exact Go.Maps.atKey_put_same ho.isMap hil _ _
    · rw [h2 _ e, ← hc]; exact Go.Maps.atKey_put_other e _ _⟩ r2
  unfold Oper.wp
  rcases hop with hop | hop <;> simp [execOp, hop, hm, hx, hv, hrun, Result.andThen] <;> exact hK' _ _ hfin
end
section
variable {P : Program} {ops : Array Oper} {rest : List Oper} {o : Oper} {a : Act} {Q : Exit → Act → World → Prop} {W : World}
theorem gate_ins {t : TypeId} {m x v : Operand} (_ho : o.op = .insert t m x v) (h : wpList P ops Q (o :: rest) a W) : wpList P ops Q (o :: rest) a W := h
theorem gate_upd {t : TypeId} {m x v : Operand} (_ho : o.op = .mapUpdate t m x v) (h : wpList P ops Q (o :: rest) a W) : wpList P ops Q (o :: rest) a W := h
theorem gate_look {t : TypeId} {m x : Operand} {ok : Bool} (_ho : o.op = .lookup t m x ok) (h : wpList P ops Q (o :: rest) a W) : wpList P ops Q (o :: rest) a W := h
end
end Go.Proofs.Ytpcpbeklaibdfaa.C

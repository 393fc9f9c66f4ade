/- chapter 13: a step of the program and of the document, and runs of them. -/
import Derived.Test.YtpcpbeklaibdfaaCx0
import Derived.Test.YtpcpbeklaibdfaaCx3
import Derived.Test.YtpcpbeklaibdfaaCx8
import Derived.Test.YtpcpbeklaibdfaaCx18
import Derived.Test.YtpcpbeklaibdfaaCx19
import Derived.Test.YtpcpbeklaibdfaaCx23
import Derived.Test.YtpcpbeklaibdfaaCx26
import Derived.Test.YtpcpbeklaibdfaaCx27
import Derived.Test.YtpcpbeklaibdfaaCx29
import Derived.Test.YtpcpbeklaibdfaaCx30
import Derived.Test.YtpcpbeklaibdfaaCx33
import Derived.Test.YtpcpbeklaibdfaaCx34
import Derived.Test.YtpcpbeklaibdfaaCx35
import Derived.Test.YtpcpbeklaibdfaaCx43
import Derived.Test.YtpcpbeklaibdfaaCx44
import Derived.Test.YtpcpbeklaibdfaaRunEv
set_option linter.unusedVariables false
set_option linter.unusedSimpArgs false
namespace Go.Proofs.Ytpcpbeklaibdfaa.RunEv
open Go.RowKit Go.Proofs.Ytpcpbeklaibdfaa.C Go.Proofs.YtpcpbeklaibdfaaW.PrintWords Go.Proofs.YtpcpbeklaibdfaaW.PrintLast
theorem ev_Large1 (a : ByteArray) (l1 : List ByteArray) (l2 : List S53) (l3 : List S57) (h2 : l2.length ≤ 150) : ∀ (m i : Nat), i + m = l2.length → Ev (fun k => warrantorref11_Large.l1 k (i : Int) a l1 l2 l3) ((l2.drop i).any (fun s => decide ((s.f0.size : Int) > 100) || decide ((s.f1.size : Int) > 100)))
  | 0, i, hi => by
    refine Ev.succ (fun k => by rw [warrantorref11_Large.l1]) ?_
    simp only [if_neg (show ¬ (i : Int) < (l2.length : Int) by omega)]
    rw [List.drop_of_length_le (by omega)]
    exact Ev.const rfl
  | m + 1, i, hi => by
    have hlt : i < l2.length := by omega
    refine Ev.succ (fun k => by rw [warrantorref11_Large.l1]) ?_
    simp only [if_pos (show (i : Int) < (l2.length : Int) by omega), if_pos (Int.natCast_nonneg i)]
    rw [rd53_at l2 i hlt, List.drop_eq_getElem_cons hlt, List.any_cons]
    have ih := ev_Large1 a l1 l2 l3 h2 m (i + 1) (by omega)
    by_cases h1 : (l2[i].f0.size : Int) > 100
    · simp only [if_pos h1]; exact Ev.const (by simp [h1])
    · by_cases h3 : (l2[i].f1.size : Int) > 100
      · simp only [if_neg h1, if_pos h3]; exact Ev.const (by simp [h3])
      · simp only [if_neg h1, if_neg h3]
        rw [w64 (by omega) (by omega), decide_eq_false h1, decide_eq_false h3]
        simpa using ih
theorem ev_Large0 (a : ByteArray) (l1 : List ByteArray) (l2 : List S53) (l3 : List S57) (h1 : l1.length ≤ 20) (h2 : l2.length ≤ 150) : ∀ (m i : Nat), i + m = l1.length → Ev (fun k => warrantorref11_Large.l0 k (i : Int) a l1 l2 l3) ((l1.drop i).any (fun s => decide ((s.size : Int) > 100)) || l2.any (fun s => decide ((s.f0.size : Int) > 100) || decide ((s.f1.size : Int) > 100)))
  | 0, i, hi => by
    refine Ev.succ (fun k => by rw [warrantorref11_Large.l0]) ?_
    simp only [if_neg (show ¬ (i : Int) < (l1.length : Int) by omega)]
    rw [List.drop_of_length_le (by omega)]
    simpa using ev_Large1 a l1 l2 l3 h2 l2.length 0 (by omega)
  | m + 1, i, hi => by
    have hlt : i < l1.length := by omega
    refine Ev.succ (fun k => by rw [warrantorref11_Large.l0]) ?_
    simp only [if_pos (show (i : Int) < (l1.length : Int) by omega), if_pos (Int.natCast_nonneg i)]
    rw [rdOf_at l1 i hlt, List.drop_eq_getElem_cons hlt, List.any_cons]
    have ih := ev_Large0 a l1 l2 l3 h1 h2 m (i + 1) (by omega)
    by_cases h3 : (l1[i].size : Int) > 100
    · simp only [if_pos h3]; exact Ev.const (by simp [h3])
    · simp only [if_neg h3]
      rw [w64 (by omega) (by omega), decide_eq_false h3]
      simpa using ih
theorem ev_Large (a : ByteArray) (l1 : List ByteArray) (l2 : List S53) (l3 : List S57) : ∃ b, Ev (fun k => warrantorref11_Large.f k a l1 l2 l3) b ∧ (b = false → Small a l1 l2 l3) := by
  unfold warrantorref11_Large.f
  have hT : Ev (fun k => warrantorref11_Large.j0 k true a l1 l2 l3) true := Ev.succ (b := fun _ => some true) (fun k => by rw [warrantorref11_Large.j0, if_pos rfl]) (Ev.const rfl)
  by_cases c0 : (a.size : Int) > 100
  · simp only [if_pos c0]; exact ⟨true, hT, fun h => by cases h⟩
  by_cases c1 : (l1.length : Int) > 20
  · simp only [if_neg c0, if_pos c1]; exact ⟨true, hT, fun h => by cases h⟩
  by_cases c2 : (l2.length : Int) > 150
  · simp only [if_neg c0, if_neg c1, if_pos c2]; exact ⟨true, hT, fun h => by cases h⟩
  simp only [if_neg c0, if_neg c1, if_neg c2]
  by_cases c3 : (l3.length : Int) > 300
  · rw [decide_eq_true c3]; exact ⟨true, hT, fun h => by cases h⟩
  rw [decide_eq_false c3]
  refine ⟨_, Ev.succ (fun k => by rw [warrantorref11_Large.j0, if_neg Bool.false_ne_true]; rfl) (ev_Large0 a l1 l2 l3 (by omega) (by omega) l1.length 0 (by omega)), fun h => ?_⟩
  rw [List.drop_zero, Bool.or_eq_false_iff, List.any_eq_false, List.any_eq_false] at h
  refine ⟨by omega, by omega, by omega, by omega, fun s hs => ?_, fun s hs => ?_⟩
  · have := h.1 s hs
    simp at this
    omega
  · have := h.2 s hs
    simp at this
    omega
/-! a statement -/
theorem value_f (vs : List Int) (i : Int) (h0 : 0 ≤ i) (h1 : i ≤ vs.length) (hl : vs.length < 1000) : warrantorref13_Value.f vs i = some (valAt vs i) := by
  unfold warrantorref13_Value.f valAt
  by_cases h : i = 0
  · rw [if_pos h, if_pos h]
  · rw [if_neg h, if_neg h, w64 (by omega) (by omega), if_pos (by omega), if_pos (by omega)]
theorem isB_val (vs : List Int) (i : Int) (h0 : 0 ≤ i) (h1 : i ≤ vs.length) (hv : ∀ v ∈ vs, isB v = true) : isB (valAt vs i) = true := by
  unfold valAt
  by_cases h : i = 0
  · rw [if_pos h]; decide
  · rw [if_neg h]
    have : (i - 1).toNat < vs.length := by omega
    have e : rd vs (i - 1) = vs[(i - 1).toNat] := by
      unfold rd
      rw [List.getD_eq_getElem?_getD, List.getElem?_eq_getElem this]
      rfl
    rw [e]
    exact hv _ (List.getElem_mem this)
theorem with_f (vs : List Int) (x n : Int) (h0 : 1 ≤ x) (h1 : x ≤ vs.length) (hl : vs.length < 1000) : warrantorref13_With.f vs x n = some (vs.set (x - 1).toNat n) := by
  unfold warrantorref13_With.f
  rw [Option.bind_some, if_pos (by simp; omega), Option.bind_some, List.nil_append, w64 (by omega) (by omega), if_pos (by omega), if_pos (by omega)]
theorem set_ok (vs : List Int) (p : Nat) (n : Int) (hv : ∀ v ∈ vs, isB v = true) (hn : isB n = true) : ∀ v ∈ vs.set p n, isB v = true := fun v h => by
  rcases List.mem_or_eq_of_mem_set h with h | rfl
  · exact hv v h
  · exact hn
theorem clip_ok {a : Int} (h : isB a = true) : clipB a = a := by
  unfold isB at h
  exact beq_iff_eq.1 h
theorem add_ok {a b : Int} (ha : isB a = true) (hb : isB b = true) : addB a b = if isB (wrap64 (a + b)) = true then (wrap64 (a + b), true) else (0, false) := by
  unfold addB
  rw [clip_ok ha, clip_ok hb]
theorem clone_ok (vs : List Int) (hl : vs.length < 1000) (r : Int) : ((some (([] : List Int) : List Int)).bind fun y => (if y.length + vs.length < 17592186044416 then (some ((y ++ vs), r)) else (none))) = some (vs, r) := by
  rw [Option.bind_some, if_pos (by simp; omega), List.nil_append]
theorem does_eq (f0 f1 f2 f3 f4 ch : Int) (vs : List Int) (hl : vs.length < 1000) (hr : rightB f0 f1 f2 f3 f4 vs.length = true) (hv : ∀ v ∈ vs, isB v = true) :
    warrantorref13_Does.f f0 f1 f2 f3 f4 vs ch = some (if (doesB f0 f1 f2 f3 f4 ch vs).1 = 0 then ((doesB f0 f1 f2 f3 f4 ch vs).2, 0) else ([], (doesB f0 f1 f2 f3 f4 ch vs).1)) ∧
      ((doesB f0 f1 f2 f3 f4 ch vs).1 = 0 → (doesB f0 f1 f2 f3 f4 ch vs).2.length = vs.length ∧ ∀ v ∈ (doesB f0 f1 f2 f3 f4 ch vs).2, isB v = true) := by
  unfold rightB at hr
  rw [Bool.and_eq_true, Bool.and_eq_true] at hr
  obtain ⟨_, hk, hr⟩ := hr
  have hk := oneB_iff hk
  unfold warrantorref13_Does.f doesB
  by_cases c1 : f0 = 1
  · subst c1
    simp only [show ¬ (1 : Int) = 2 by omega, show ¬ (1 : Int) = 3 by omega, show ¬ (1 : Int) = 4 by omega, show ¬ (1 : Int) = 5 by omega, if_false, if_true]
    exact ⟨clone_ok vs hl 0, fun _ => ⟨by first | rfl | trivial, hv⟩⟩
  rw [if_neg c1] at hr
  simp only [if_neg c1]
  by_cases c2 : f0 = 2
  · rw [if_pos c2, k3B, Bool.and_eq_true, Bool.and_eq_true, Bool.and_eq_true] at hr
    obtain ⟨hx, hy, hc, _⟩ := hr
    have hx := oneB_iff hx
    have hy := someB_iff hy
    simp only [if_pos c2]
    rw [value_f vs f2 hy.1 hy.2 hl, Option.bind_some, ris_f, Option.bind_some]
    unfold letB
    rw [add_ok (isB_val vs f2 hy.1 hy.2 hv) hc]
    cases hb : isB (wrap64 (valAt vs f2 + f3)) with
    | true =>
      simp only [if_true]
      rw [with_f vs f1 _ hx.1 hx.2 hl, Option.bind_some]
      simp only [putB, if_true]
      exact ⟨by first | rfl | trivial, fun _ => ⟨List.length_set, set_ok vs _ _ hv hb⟩⟩
    | false =>
      simp only [Bool.false_eq_true, if_false, putB]
      exact ⟨by first | rfl | trivial, fun h => by cases h⟩
  rw [if_neg c2] at hr
  simp only [if_neg c2]
  by_cases c3 : f0 = 3
  · rw [if_pos c3, k4B, Bool.and_eq_true] at hr
    obtain ⟨hx, hr⟩ := hr
    have hx := oneB_iff hx
    by_cases z : f2 = 0
    · rw [if_pos z, Bool.and_eq_true, Bool.and_eq_true] at hr
      obtain ⟨hc, hd, _⟩ := hr
      have hc := (isB_iff _).1 hc
      have hd := (isB_iff _).1 hd
      simp only [if_pos c3]
      unfold C.takeB putB
      by_cases a1 : ch < f3
      · simp only [if_pos a1]
        rw [decide_eq_false (show ¬ f3 ≤ ch by omega)]
        simp
      · simp only [if_neg a1]
        rw [decide_eq_true (show f3 ≤ ch by omega)]
        by_cases a2 : ch > f4
        · simp only [if_pos a2]
          rw [decide_eq_false (show ¬ ch ≤ f4 by omega)]
          simp
        · simp only [if_neg a2]
          rw [decide_eq_true (show ch ≤ f4 by omega), with_f vs f1 _ hx.1 hx.2 hl, Option.bind_some]
          simp only [Bool.and_self, if_true]
          exact ⟨by first | rfl | trivial, fun _ => ⟨List.length_set, set_ok vs _ _ hv ((isB_iff _).2 ⟨by omega, by omega⟩)⟩⟩
    · rw [if_neg z] at hr; cases hr
  rw [if_neg c3] at hr
  simp only [if_neg c3]
  rw [k1B, Bool.and_eq_true, Bool.and_eq_true] at hr
  obtain ⟨hx, hy, _⟩ := hr
  have hx := someB_iff hx
  have hy := someB_iff hy
  by_cases c4 : f0 = 4
  · simp only [if_pos c4]
    rw [value_f vs f1 hx.1 hx.2 hl, Option.bind_some, value_f vs f2 hy.1 hy.2 hl, Option.bind_some]
    unfold limB
    by_cases a1 : wrap64 (valAt vs f1 - valAt vs f2) > f3
    · simp only [if_pos a1]
      exact ⟨by first | rfl | trivial, fun h => by cases h⟩
    · simp only [if_neg a1]
      exact ⟨clone_ok vs hl 0, fun _ => ⟨by first | rfl | trivial, hv⟩⟩
  · have c5 : f0 = 5 := by omega
    simp only [if_neg c4, if_pos c5]
    rw [value_f vs f1 hx.1 hx.2 hl, Option.bind_some, value_f vs f2 hy.1 hy.2 hl, Option.bind_some]
    unfold limB
    by_cases a1 : wrap64 (valAt vs f1 - valAt vs f2) > f3
    · simp only [if_pos a1]
      exact ⟨by first | rfl | trivial, fun h => by cases h⟩
    · simp only [if_neg a1]
      exact ⟨clone_ok vs hl 0, fun _ => ⟨by first | rfl | trivial, hv⟩⟩
/-! a step, runs -/
theorem vals_iff (l : List Int) (n : Nat) : valsB l n = true ↔ l.length = n ∧ ∀ v ∈ l, isB v = true := by
  unfold valsB
  rw [Bool.and_eq_true, decide_eq_true_eq, Bool.not_eq_true', List.any_eq_false]
  constructor
  · rintro ⟨h1, h2⟩
    exact ⟨by omega, fun v hv => by have := h2 v hv; simpa using this⟩
  · rintro ⟨h1, h2⟩
    exact ⟨by omega, fun v hv => by rw [h2 v hv]; simp⟩
/-- Each edge's statement is one of so many variables. -/
def Edges (l1 : List ByteArray) (l3 : List S57) : Prop := ∀ e ∈ l3, rightB e.f2.f0 e.f2.f1 e.f2.f2 e.f2.f3 e.f2.f4 l1.length = true
theorem edges_of {a : ByteArray} {l1 : List ByteArray} {l2 : List S53} {l3 : List S57} (h : chkB a l1 l2 l3 = true) : Edges l1 l3 ∧ 1 ≤ l2.length ∧ l1.length ≤ 8 := by
  unfold chkB at h
  simp only [Bool.and_eq_true, Bool.not_eq_true', List.any_eq_false] at h
  obtain ⟨_, h1, h2, _, _, h3⟩ := h
  refine ⟨fun e he => ?_, by have := oneB_iff h2; omega, ?_⟩
  · have := h3 e he
    unfold oddB at this
    simp only [Bool.or_eq_true, Bool.not_eq_true', not_or, Bool.not_eq_false] at this
    exact this.2.2
  · unfold varsB at h1
    rw [Bool.and_eq_true, decide_eq_true_eq] at h1
    omega
theorem step_eq {a : ByteArray} {l1 : List ByteArray} {l2 : List S53} {l3 : List S57} (hn : l1.length ≤ 8) (hE : Edges l1 l3) (pt : Int) (vs : List Int) (hv : valsB vs l1.length = true) (ed ch : Int) :
    run_step.f a l1 l2 l3 pt vs ed ch = some (stepB pt vs ed ch l3) ∧ Ev (fun k => warrantorref13_Step.f k a l1 l2 l3 pt vs ed ch) (stepB pt vs ed ch l3) ∧ ((stepB pt vs ed ch l3).2.2 = 0 → valsB (stepB pt vs ed ch l3).2.1 l1.length = true) := by
  obtain ⟨hl, hv⟩ := (vals_iff vs l1.length).1 hv
  have hbad : Ev (fun k => warrantorref13_Step.j0 k true a l1 l2 l3 pt vs ed ch) (0, [], 1) := Ev.succ (b := fun _ => some (0, [], 1)) (fun k => by rw [warrantorref13_Step.j0, if_pos rfl]) (Ev.const rfl)
  unfold run_step.f warrantorref13_Step.f goodB stepB
  by_cases h0 : ed < 0
  · have e0 : ¬ (0 ≤ ed ∧ ed < l3.length) := by omega
    rw [decide_eq_true (show vs.length < 1000000 by omega), decide_eq_false (show ¬ 0 ≤ ed by omega)]
    simp only [if_pos h0, if_neg e0]
    exact ⟨rfl, hbad, fun h => by cases h⟩
  by_cases h1 : ed ≥ (l3.length : Int)
  · have e0 : ¬ (0 ≤ ed ∧ ed < l3.length) := by omega
    rw [decide_eq_true (show vs.length < 1000000 by omega), decide_eq_false (show ¬ ed < (l3.length : Int) by omega), Bool.and_false]
    simp only [if_neg h0, if_pos h1, if_neg e0]
    exact ⟨rfl, hbad, fun h => by cases h⟩
  have h2 : 0 ≤ ed := by omega
  have h3 : ed < (l3.length : Int) := by omega
  obtain ⟨p, rfl⟩ : ∃ p : Nat, ed = (p : Int) := ⟨ed.toNat, by omega⟩
  have hp : p < l3.length := by omega
  rw [decide_eq_true (show vs.length < 1000000 by omega), decide_eq_true h2, decide_eq_true h3]
  simp only [if_neg h0, if_neg h1, if_pos h2, if_pos h3, rd57_at l3 p hp]
  rw [if_pos (show (0 : Int) ≤ (p : Int) ∧ (p : Int) < (l3.length : Int) from ⟨h2, h3⟩)]
  have hR := hE _ (List.getElem_mem hp)
  rw [← hl] at hR
  rw [hR]
  simp only [Bool.and_self, Bool.not_true, Bool.false_or, Bool.and_true, if_true]
  obtain ⟨d1, d2⟩ := does_eq l3[p].f2.f0 l3[p].f2.f1 l3[p].f2.f2 l3[p].f2.f3 l3[p].f2.f4 ch vs (by omega) hR hv
  refine ⟨trivial, ?_⟩
  by_cases h4 : l3[p].f0 = pt
  · rw [if_pos h4]
    have e4 : (l3[p].f0 != pt) = false := bne_eq_false_iff_eq.mpr h4
    rw [e4]
    refine ⟨Ev.succ (fun k => by rw [warrantorref13_Step.j0, if_neg Bool.false_ne_true, if_pos h2, if_pos h3, rd57_at l3 p hp, d1, Option.bind_some]) ?_, ?_⟩
    · refine Ev.const ?_
      by_cases h5 : (doesB l3[p].f2.f0 l3[p].f2.f1 l3[p].f2.f2 l3[p].f2.f3 l3[p].f2.f4 ch vs).1 = 0
      · simp only [if_pos h5, if_true]
      · simp only [if_neg h5]
    · by_cases h5 : (doesB l3[p].f2.f0 l3[p].f2.f1 l3[p].f2.f2 l3[p].f2.f3 l3[p].f2.f4 ch vs).1 = 0
      · rw [if_pos h5]
        intro _
        obtain ⟨q1, q2⟩ := d2 h5
        exact (vals_iff _ _).2 ⟨by rw [← hl]; exact q1, q2⟩
      · rw [if_neg h5]
        exact fun h => absurd h h5
  · rw [if_neg h4]
    have e4 : (l3[p].f0 != pt) = true := bne_iff_ne.mpr h4
    rw [e4]
    exact ⟨hbad, fun h => by cases h⟩
/-! two states -/
theorem ev_Same0 (a : Int) (l : List Int) (hl : l.length ≤ 1000000) : ∀ (m i : Nat), i + m = l.length → Ev (fun k => warrantorref13_Same.l0 k (i : Int) a l a l) true
  | 0, i, hi => by
    refine Ev.succ (fun k => by rw [warrantorref13_Same.l0]) ?_
    simp only [if_neg (show ¬ (i : Int) < (l.length : Int) by omega)]
    exact Ev.const rfl
  | m + 1, i, hi => by
    refine Ev.succ (fun k => by rw [warrantorref13_Same.l0]) ?_
    simp only [if_pos (show (i : Int) < (l.length : Int) by omega), if_pos (Int.natCast_nonneg i), if_true]
    rw [w64 (by omega) (by omega)]
    exact ev_Same0 a l hl m (i + 1) (by omega)
theorem ev_Self (a : Int) (l : List Int) (hl : l.length ≤ 1000000) : Ev (fun k => warrantorref13_Same.f k a l a l) true := by
  unfold warrantorref13_Same.f
  simp only [if_true, bne_self_eq_false]
  exact Ev.succ (fun k => by rw [warrantorref13_Same.j0, if_neg Bool.false_ne_true]; rfl) (ev_Same0 a l hl l.length 0 (by omega))
end Go.Proofs.Ytpcpbeklaibdfaa.RunEv

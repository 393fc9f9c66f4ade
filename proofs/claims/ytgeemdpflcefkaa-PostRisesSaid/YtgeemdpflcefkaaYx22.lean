import Derived.Test.YtgeemdpflcefkaaYx0
import Derived.Test.YtgeemdpflcefkaaYx8
import Derived.Test.YtgeemdpflcefkaaYx18
import Derived.Test.YtgeemdpflcefkaaYx19
import Derived.Test.YtgeemdpflcefkaaYx20
import Derived.Test.YtgeemdpflcefkaaYx21
namespace Go.Proofs.Ytgeemdpflcefkaa.Y
open Go.RowKit Go.Proofs.YtgeemdpflcefkaaW.PrintWords Go.Proofs.YtgeemdpflcefkaaW.PrintLast Go.Proofs.YtgeemdpflcefkaaW.PrintMore
attribute [local go_sem] max2_int min2_int max_two min_two max_three min_three max_four min_four   -- for this text's walks alone
set_option linter.unusedVariables false
set_option linter.unusedSimpArgs false
/-- Where the steps of a matrix are known. -/
def fitZ (n : Int) (zs : List Int) (i j : Int) : Bool := decide (0 ≤ n) && decide (n ≤ 8) && decide (0 ≤ i) && decide (i ≤ n) && decide (0 ≤ j) && decide (j ≤ n) && (zs.isEmpty || decide (zs.length = (n.toNat + 1) * (n.toNat + 1)))
def doneZ (k : Nat) (n : Int) (zs : List Int) (i j : Int) (fs : List (FuncId × (List Int → List Int))) : Option (List Int) := if fitZ n zs i j then doneF k n.toNat fs zs else none
def limitS (n i j c : Int) : FuncId × (List Int → List Int) := (66, fun xs => limitL n.toNat xs i.toNat j.toNat c)
def freeS (n i : Int) : FuncId × (List Int → List Int) := (67, fun xs => freeTo i.toNat n.toNat xs (n.toNat + 1))
def moveS (n i c : Int) : FuncId × (List Int → List Int) := (69, fun xs => moveTo i.toNat n.toNat c xs (n.toNat + 1))
def equalS (n i j c : Int) : FuncId × (List Int → List Int) := (70, fun xs => limitL n.toNat (limitL n.toNat xs i.toNat j.toNat c) j.toNat i.toNat (wrap64 (-c)))
theorem doneF_mono (n : Nat) : ∀ (fs : List (FuncId × (List Int → List Int))) (zs : List Int) (k : Nat), LeO (doneF k n fs zs) (doneF (k + 1) n fs zs)
 | [], zs, k => LeO.refl _
 | f :: fs, zs, k => by
  unfold doneF
  refine LeO.ite (LeO.refl _) (LeO.bind (dbm_Close.mono _ _ k) (fun r => ?_))
  exact LeO.ite (doneF_mono n fs r.2.1 k) (LeO.refl _)
theorem doneZ_mono (n : Int) (zs : List Int) (i j : Int) (fs : List (FuncId × (List Int → List Int))) (k : Nat) : LeO (doneZ k n zs i j fs) (doneZ (k + 1) n zs i j fs) := by
 unfold doneZ
 exact LeO.ite (doneF_mono _ _ _ k) (LeO.refl _)
theorem fitZ_out {n : Int} {zs : List Int} {i j : Int} (h : fitZ n zs i j = true) : n = (n.toNat : Int) ∧ n.toNat ≤ 8 ∧ i = (i.toNat : Int) ∧ i.toNat ≤ n.toNat ∧ j = (j.toNat : Int) ∧ j.toNat ≤ n.toNat ∧ (zs = [] ∨ zs.length = (n.toNat + 1) * (n.toNat + 1)) := by
 simp only [fitZ, Bool.and_eq_true, decide_eq_true_eq, Bool.or_eq_true, List.isEmpty_iff] at h
 obtain ⟨⟨⟨⟨⟨⟨h1, h2⟩, h3⟩, h4⟩, h5⟩, h6⟩, h7⟩ := h
 exact ⟨by omega, by omega, by omega, by omega, by omega, by omega, h7⟩
/-- The steps, done, as a caller meets them. -/
theorem doneZ_calls (k : Nat) (n : Int) (A0 : Option Addr) (c0 : Nat) (zs : List Int) (i j c : Int) (fs : List (FuncId × (List Int → List Int))) (hfs : fitZ n zs i j = true → ∀ f ∈ fs, IsStep n.toNat i j c f) (hne : 0 < fs.length) (hfl : fs.length ≤ 8) (bs : Nat) (r : List Int) (w : World)
   (hr0 : Kd.C (Kd.int .i64) w A0 zs.length zs) (hc0 : zs.length ≤ c0) (hst : ∀ q (hq : q < fs.length), w.cell? ⟨bs, q, none⟩ = some (.func (.func (fs[q]).1) #[] #[])) (h : doneZ k n zs i j fs = some r) :
   Calls Try.prog 65 #[.agg #[.int .i64 n, .slice A0 zs.length c0], .int .i64 i, .int .i64 j, .int .i64 c, .slice (some ⟨bs, 0, none⟩) fs.length fs.length] w fun e w' =>
    ∃ v, e = .returned (.agg #[.int .i64 n, v]) ∧ Kd.R (Kd.int .i64) 3 w' w.heap.size (fun _ => True) v r ∧ Below w.heap.size w w' := by
 unfold doneZ at h
 split at h
 · rename_i hf
   obtain ⟨h1, h2, h3, h4, h5, h6, h7⟩ := fitZ_out hf
   have := done_calls k n.toNat h2 i j c fs (hfs hf) hne hfl A0 c0 zs h7 bs fs.length r w hr0 hc0 hst (Nat.le_refl _) h
   rwa [← h1] at this
 · cases h
theorem limitS_step {n : Int} {zs : List Int} {i j : Int} (h : fitZ n zs i j = true) (c : Int) : IsStep n.toNat i j c (limitS n i j c) := by
 obtain ⟨h1, h2, h3, h4, h5, h6, h7⟩ := fitZ_out h
 have := limit_step n.toNat i.toNat j.toNat h2 h4 h6 c
 rwa [← h3, ← h5] at this
theorem freeS_step {n : Int} {zs : List Int} {i j : Int} (h : fitZ n zs i j = true) (c : Int) : IsStep n.toNat i j c (freeS n i) := by
 obtain ⟨h1, h2, h3, h4, h5, h6, h7⟩ := fitZ_out h
 have := free_step n.toNat i.toNat h2 h4 j c
 rwa [← h3] at this
theorem moveS_step {n : Int} {zs : List Int} {i j : Int} (h : fitZ n zs i j = true) (c : Int) : IsStep n.toNat i j c (moveS n i c) := by
 obtain ⟨h1, h2, h3, h4, h5, h6, h7⟩ := fitZ_out h
 have := move_step n.toNat i.toNat h2 h4 j c
 rwa [← h3] at this
theorem equalS_step {n : Int} {zs : List Int} {i j : Int} (h : fitZ n zs i j = true) (c : Int) : IsStep n.toNat i j c (equalS n i j c) := by
 obtain ⟨h1, h2, h3, h4, h5, h6, h7⟩ := fitZ_out h
 have := equal_step n.toNat i.toNat j.toNat h2 h4 h6 c
 rwa [← h3, ← h5] at this
/-- A slice that is built of values: a block of its own. -/
theorem lit_event_ {P : Program} {ops : Array Oper} {rest : List Oper} {o : Oper} {a : Act} {Q : Exit → Act → World → Prop} {W : World} (hgd : o.guard = none) {N : Tmp} (_hd : o.dst = some N) {cs : Array Value} {t : TypeId} {m : Nat}
  (hrun : (execOp a.eval o).run P W = .ok (.value (.slice (some ⟨W.heap.size, 0, none⟩) m m)) (W.alloc (.cells cs t (0, 0))))
  (h : ∀ g, g = W.heap.size → ∀ w1, w1.heap[g]? = some (.cells cs t (0, 0)) → Below W.heap.size W w1 → wpList P ops Q rest (a.put o.dst (.slice (some ⟨g, 0, none⟩) m m)) w1) : wpList P ops Q (o :: rest) a W :=
 Kd.event_run hgd hrun (h _ rfl _ (blk_new W _) (below_alloc (Below.refl _ _) _))
end Go.Proofs.Ytgeemdpflcefkaa.Y

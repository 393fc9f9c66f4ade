import Derived.Test.YtpcpbeklaibdfaaCx0
namespace Go.Proofs.Ytpcpbeklaibdfaa.C
open Go.RowKit Go.Proofs.YtpcpbeklaibdfaaW.PrintWords Go.Proofs.YtpcpbeklaibdfaaW.PrintLast Go.Proofs.YtpcpbeklaibdfaaW.PrintMore
attribute [local go_sem] max2_int min2_int max_two min_two max_three min_three max_four min_four   -- for this text's walks alone
set_option linter.unusedVariables false
set_option linter.unusedSimpArgs false
/-! Rows of states: what a run comes to, one behind the other. -/
def runO (st : Int → List Int → Int → Int → Option (Int × List Int × Int)) : Int → List Int → List S31 → Option (List S29 × Int)
  | _, _, [] => some ([], 0)
  | pt, vs, c :: r => (st pt vs c.f0 c.f1).bind fun t => if t.2.2 = 0 then (runO st t.1 t.2.1 r).bind (fun q => some (⟨t.1, t.2.1⟩ :: q.1, q.2)) else some ([], t.2.2)
theorem rd_T31_at (l : List S31) (i : Nat) (h : i < l.length) : rd_T31 l (i : Int) = l[i] := by simp [rd_T31, List.getD_eq_getElem?_getD, List.getElem?_eq_getElem h]
/-- The rest of a run behind what it came to. -/
def runR (st : Int → List Int → Int → Int → Option (Int × List Int × Int)) (pt : Int) (vs : List Int) (l : List S31) (out : List S29) (r1 : List S29) (r2 : Int) : Prop := (runO st pt vs l).bind (fun q => some (out ++ q.1, q.2)) = some (r1, r2)
theorem runR_nil {st : Int → List Int → Int → Int → Option (Int × List Int × Int)} {pt : Int} {vs : List Int} {out r1 : List S29} {r2 : Int} (h : runR st pt vs [] out r1 r2) : out = r1 ∧ 0 = r2 := by
  unfold runR runO at h
  simpa using h
theorem runR_cons {st : Int → List Int → Int → Int → Option (Int × List Int × Int)} {pt : Int} {vs : List Int} {c : S31} {r : List S31} {out r1 : List S29} {r2 : Int} (h : runR st pt vs (c :: r) out r1 r2) :
    ∃ t1 t2 t3, st pt vs c.f0 c.f1 = some (t1, t2, t3) ∧ (t3 = 0 → runR st t1 t2 r (out ++ [⟨t1, t2⟩]) r1 r2) ∧ (¬ t3 = 0 → out = r1 ∧ t3 = r2) := by
  unfold runR at h
  rw [runO] at h
  obtain ⟨q, hq, h⟩ := Option.bind_eq_some_iff.1 h
  obtain ⟨⟨t1, t2, t3⟩, ht, hq⟩ := Option.bind_eq_some_iff.1 hq
  refine ⟨t1, t2, t3, ht, fun h0 => ?_, fun h0 => ?_⟩
  · simp only at hq
    rw [if_pos h0] at hq
    obtain ⟨q', hq', he⟩ := Option.bind_eq_some_iff.1 hq
    unfold runR
    rw [hq', Option.bind_some]
    obtain rfl := Option.some.inj he
    simpa using h
  · simp only at hq
    rw [if_neg h0] at hq
    obtain rfl := Option.some.inj hq
    simpa using h
/-- A row of numbers is no row of states. -/
theorem R_apart29 {base base' : Nat} {w : World} {ok ok' : Nat → Prop} {v u : Value} {xs : List Int} {ys : List S29} (h : Kd.R (Kd.int .i64) 3 w base ok v xs) (h' : Kd.R k29 29 w base' ok' u ys) : Kd.R (Kd.int .i64) 3 w base (fun k => some k ≠ u.ownBlock) v xs := by
  refine Kd.R_of_own (Kd.own_of_R h) (fun k hk => ?_)
  rcases (Kd.own_of_R h).2 with ⟨h3, _⟩ | ⟨g, _, _, h3, _, hb, _⟩
  · rw [h3] at hk; simp [Value.ownBlock] at hk
  · rw [h3] at hk
    obtain rfl : g = k := by simpa [Value.ownBlock] using hk
    exact Kd.R_ne h' hb (by decide)
theorem R_grown29 {base base' : Nat} {w w1 : World} {ok ok' : Nat → Prop} {v u : Value} {xs : List Int} {ys : List S29} (h : Kd.R (Kd.int .i64) 3 w base ok v xs) (h' : Kd.R k29 29 w base' ok' u ys) (hg : w.grownBy w1 u.ownBlock) : Kd.R (Kd.int .i64) 3 w1 base ok v xs := by
  have h2 := R_apart29 h h'
  refine Kd.R_of_own ?_ (fun k hk => h.1 k hk)
  obtain ⟨h3, h4⟩ := Kd.own_of_R h
  refine ⟨h3, h4.imp id (fun ⟨g, c, cur, e, hb, hh, r⟩ => ⟨g, c, cur, e, hb, ?_, r⟩)⟩
  exact (hg.block g (blk_lt hh) (Kd.R_ne h' hh (by decide))).trans hh
/-- The row of one state, as it is read to be put behind others. -/
theorem R_reads29 {base : Nat} {w : World} {ok : Nat → Prop} {A : Option Addr} {n c : Nat} {ys : List S29} (h : Kd.R k29 29 w base ok (.slice A n c) ys) : ReadsRow (fun x cs => k29.M w base (fun k => ok k ∧ some k ≠ (Value.slice A n c).ownBlock) x cs) 2 w A n ys := by
  obtain ⟨_, h2⟩ := h
  obtain ⟨A', c', e, _, hr⟩ := OwnRow.reads h2
  obtain ⟨rfl, rfl, rfl⟩ := Value.slice.inj e
  exact hr
theorem R29_ne {base g : Nat} {w : World} {ok : Nat → Prop} {v : Value} {ys : List S29} {cs : Array Value} (h : Kd.R k29 29 w base ok v ys) (hb : w.heap[g]? = some (.cells cs 29 (0, 0))) (hn : some g ≠ v.ownBlock) : Kd.R k29 29 w base (fun k => ok k ∧ k ≠ g) v ys := by
  obtain ⟨hok, inner, ho, hr⟩ := h
  refine ⟨fun k hk => ⟨hok k hk, fun e => hn (by rw [hk, e])⟩, inner, ho, hr.imp_ (fun x c hM => ?_)⟩
  obtain ⟨v1, rfl, hR⟩ := k29_openM hM
  exact k29_mkM w base _ x (Kd.R_mono (Kd.R_types hR hb (by decide)) (fun k hk => ⟨⟨hk.1.1, hk.2⟩, hk.1.2⟩))
theorem R29_set {base g : Nat} {w : World} {ok : Nat → Prop} {v : Value} {ys : List S29} {cs : Array Value} (h : Kd.R k29 29 w base ok v ys) (hb : w.heap[g]? = some (.cells cs 29 (0, 0))) (hn : some g ≠ v.ownBlock) (x y : Value) : Kd.R k29 29 ((w.setCell ⟨g, 0, none⟩ x).setCell ⟨g, 1, none⟩ y) base ok v ys :=
  Kd.R_mono (Kd.R_far (p := ⟨g, 1, none⟩) (Kd.R_far (p := ⟨g, 0, none⟩) (R29_ne h hb hn) (fun _ hk => hk.2) x) (fun _ hk => hk.2) y) (fun _ h_ => h_.1)
theorem own_after {w : World} {g : Nat} {o : Obj} {v v1 : Value} (hb : w.heap[g]? = some o) (hn : some g ≠ v.ownBlock) (hat : v1.ownBlock = v.ownBlock ∨ ∃ b, v1.ownBlock = some b ∧ w.heap.size ≤ b) : some g ≠ v1.ownBlock := by
  rcases hat with h | ⟨b, h, hle⟩
  · rw [h]; exact hn
  · rw [h]
    intro e
    injection e with e
    have := blk_lt hb
    omega
end Go.Proofs.Ytpcpbeklaibdfaa.C

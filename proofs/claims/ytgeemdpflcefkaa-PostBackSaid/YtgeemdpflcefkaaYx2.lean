import Derived.Test.YtgeemdpflcefkaaYx0
namespace Go.Proofs.Ytgeemdpflcefkaa.Y
open Go.RowKit Go.Proofs.YtgeemdpflcefkaaW.PrintWords Go.Proofs.YtgeemdpflcefkaaW.PrintLast Go.Proofs.YtgeemdpflcefkaaW.PrintMore
attribute [local go_sem] max2_int min2_int max_two min_two max_three min_three max_four min_four   -- for this text's walks alone
set_option linter.unusedVariables false
set_option linter.unusedSimpArgs false
section
variable {P : Program} {ops : Array Oper} {Q : Exit → Act → World → Prop}
/-- A call of a function value (a function with what it has captured), by the function's contract. -/
theorem goesV_ {oi : Oper} {N : Option Tmp} {a : Act} {w : World} {K : Act → World → Prop} {f : FuncId} {x : Operand} {aso : Array Operand} {ts : Array TypeId} (cap : Array Value) (args : Array Value)
  (he : (callFunc f (args ++ cap)).run P w = .ok (.enter f (args ++ cap)) w)
  (hw : Region.wanted oi (yielded ops a.tmps) = true) (hN : oi.dst = N) (hop : oi.op = .call { callee := .value x, args := aso, argTypes := ts }) (hx : a.eval x = .func (.func f) #[] cap) (hargs : aso.map a.eval = args)
  (h : Calls P f (args ++ cap) w fun e w' => ∃ v, e = .returned v ∧ K (a.put N v) w') : if Region.wanted oi (yielded ops a.tmps) = true then Oper.wp P oi a w K Q else K (a.put N undef) w := by
 refine call_ f (args ++ cap) hw hN ?_ h
 unfold execOp
 simp [hop, resolve, Deferred.ofValue, hx, invoke, hargs, he]
end
section
variable {P : Program} {ops : Array Oper} {Q : Exit → Act → World → Prop}
/-- The same in a plain region, as an arm. -/
theorem goesG_ {rest : List Oper} {oi : Oper} {a : Act} {w : World} {f : FuncId} {x : Operand} {aso : Array Operand} {ts : Array TypeId} (cap : Array Value) (args : Array Value)
  (he : (callFunc f (args ++ cap)).run P w = .ok (.enter f (args ++ cap)) w) {N : Option Tmp} (hd : oi.dst = N) (hg : oi.guard = none)
  (hop : oi.op = .call { callee := .value x, args := aso, argTypes := ts }) (hx : a.eval x = .func (.func f) #[] cap) (hargs : aso.map a.eval = args)
  (h : Calls P f (args ++ cap) w fun e w' => ∃ v, e = .returned v ∧ wpList P ops Q rest (a.put N v) w') : wpList P ops Q (oi :: rest) a w := by
 refine wpList_plain hg fun K hK => ?_
 have hrun : (execOp a.eval oi).run P w = .ok (.enter f (args ++ cap)) w := by
  unfold execOp
  simp [hop, resolve, Deferred.ofValue, hx, invoke, hargs, he]
 unfold Oper.wp
 rw [hrun, Oper.upon_enter]
 refine h.mono fun e w'' hh => ?_
 obtain ⟨v, rfl, hk⟩ := hh
 subst hd
 exact hK _ _ hk
end
/-! Cells that are set one behind the other; a row out of its cells. -/
theorem setCells_blk {t : TypeId} (b : Nat) : ∀ (vs : List Value) (o : Nat) (w : World) (cs : Array Value), w.heap[b]? = some (.cells cs t (0, 0)) → ∃ cs', cs'.size = cs.size ∧ (w.setCells b o vs).heap[b]? = some (.cells cs' t (0, 0))
 | [], _, _, cs, h => ⟨cs, rfl, h⟩
 | v :: r, o, w, cs, h => by
  obtain ⟨cs', hs, hb⟩ := setCells_blk (t := t) b r (o + 1) (w.setCell ⟨b, o, none⟩ v) (cs.setIfInBounds o v) (by simpa using blk_set h o v)
  exact ⟨cs', by rw [hs, Array.size_setIfInBounds], hb⟩
theorem setCells_below (b : Nat) : ∀ (vs : List Value) (o : Nat) (w : World), Below b w (w.setCells b o vs)
 | [], _, w => Below.refl _ w
 | v :: r, o, w => ((Below.refl b w).setCell (p := ⟨b, o, none⟩) (Nat.le_refl _) v).trans (setCells_below b r (o + 1) _)
theorem setCells_kept (b : Nat) : ∀ (vs : List Value) (o : Nat) (w : World), Kept w (w.setCells b o vs) (fun k => k = b)
 | [], _, w => Kept.refl w _
 | v :: r, o, w => Kept.then_ (Kept.setCell (Kept.refl w (fun k => k = b)) (p := ⟨b, o, none⟩) (.inl rfl) v) (setCells_kept b r (o + 1) _) (fun _ h => .inl h)
theorem R_of_cells {g cap e base : Nat} {w : World} {ok : Nat → Prop} {xs : List Int} {cur : Array Value} (hb : w.heap[g]? = some (.cells cur e (0, 0))) (hbase : base ≤ g) (hn : xs.length ≤ cap) (hm : cap ≤ maxLen) (hs : cur.size = cap)
   (hc : ∀ j (h : j < xs.length), w.cell? ⟨g, j, none⟩ = some (.int .i64 xs[j])) (hok : ok g) : Kd.R (Kd.int .i64) e w base ok (.slice (some ⟨g, 0, none⟩) xs.length cap) xs := by
 refine Kd.R_of_own ⟨by simp [encs], .inr ⟨g, cap, cur, rfl, hbase, hb, hn, hm, by omega, ?_⟩⟩ (fun k hk => ?_)
 · apply List.ext_getElem?
   intro j
   by_cases hj : j < xs.length
   rotate_left
   · rw [List.getElem?_eq_none (by simp; omega), List.getElem?_eq_none (by simp [encs]; omega)]
   have h1 := hc j hj
   rw [blk_cell hb j] at h1
   rw [List.getElem?_take_of_lt (by omega), Array.getElem?_toList, h1]
   simp [encs, List.getElem?_eq_getElem hj]
 · have : g = k := by simpa [Value.ownBlock] using hk
   exact this ▸ hok
/-- The cells of a row. -/
theorem R_to_cells {g n cap e base : Nat} {w : World} {ok : Nat → Prop} {xs : List Int} (h : Kd.R (Kd.int .i64) e w base ok (.slice (some ⟨g, 0, none⟩) n cap) xs) :
   n = xs.length ∧ base ≤ g ∧ ok g ∧ n ≤ cap ∧ cap ≤ maxLen ∧ ∃ cur : Array Value, cur.size = cap ∧ w.heap[g]? = some (.cells cur e (0, 0)) ∧ ∀ j (h : j < xs.length), w.cell? ⟨g, j, none⟩ = some (.int .i64 xs[j]) := by
 have h1 := (Kd.R_reads' h).1
 subst h1
 obtain ⟨_, ho⟩ := Kd.own_of_R h
 rcases ho with ⟨he, _⟩ | ⟨g', cap', cur, he, hg, hb, hn, hm, hs, ht⟩
 · cases he
 · cases he
   refine ⟨rfl, hg, h.1 g rfl, hn, hm, cur, by omega, hb, fun j hj => ?_⟩
   rw [blk_cell hb j]
   have h2 : (cur.toList.take (xs.length * 1))[j]? = (encs (Value.int .i64) xs)[j]? := by rw [ht]
   rw [List.getElem?_take_of_lt (by omega), Array.getElem?_toList] at h2
   rw [h2]
   simp [encs, List.getElem?_eq_getElem hj]
section
variable {P : Program} {ops : Array Oper} {Q : Exit → Act → World → Prop}
end
end Go.Proofs.Ytgeemdpflcefkaa.Y

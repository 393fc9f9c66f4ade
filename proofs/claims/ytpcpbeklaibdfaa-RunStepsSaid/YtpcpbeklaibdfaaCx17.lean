import Derived.Test.YtpcpbeklaibdfaaCx0
import Derived.Test.YtpcpbeklaibdfaaCx6
import Derived.Test.YtpcpbeklaibdfaaCx15
import Derived.Test.YtpcpbeklaibdfaaCx16
namespace Go.Proofs.Ytpcpbeklaibdfaa.C
open Go.RowKit Go.Proofs.YtpcpbeklaibdfaaW.PrintWords Go.Proofs.YtpcpbeklaibdfaaW.PrintLast Go.Proofs.YtpcpbeklaibdfaaW.PrintMore
attribute [local go_sem] max2_int min2_int max_two min_two max_three min_three max_four min_four   -- for this text's walks alone
set_option linter.unusedVariables false
set_option linter.unusedSimpArgs false
def prog_Right.f (a0_0 a0_1 a0_2 a0_3 a0_4 a1 : Int) : Option Bool := (prog_some.f a1 8).bind fun t => if t = true then ((prog_one.f a0_0 5).bind fun u => if u = true then (if a0_0 = 1 then prog_kinds_2.f a0_0 a0_1 a0_2 a0_3 a0_4 a1 else if a0_0 = 2 then prog_kinds_3.f a0_0 a0_1 a0_2 a0_3 a0_4 a1 else if a0_0 = 3 then prog_kinds_4.f a0_0 a0_1 a0_2 a0_3 a0_4 a1 else if a0_0 = 4 then prog_kinds_1.f a0_0 a0_1 a0_2 a0_3 a0_4 a1 else if a0_0 = 5 then prog_kinds_1.f a0_0 a0_1 a0_2 a0_3 a0_4 a1 else none) else some false) else some false
theorem goesT_ {P : Program} {ops : Array Oper} {Q : Exit → Act → World → Prop} {oi : Oper} {N : Option Tmp} {a : Act} {w : World} {K : Act → World → Prop} {f : FuncId} {fn : Func} {t : Tmp} {ao : Array Operand} {ts : Array TypeId} (hf : P.funcs[f]? = some fn) (hname : (fn.name == "runtime.NumGoroutine") = false) (hb : fn.body.isSome = true) (args : Array Value)
    (hw : Region.wanted oi (yielded ops a.tmps) = true) (hN : oi.dst = N) (hop : oi.op = .call { callee := .value (.tmp t), args := ao, argTypes := ts }) (hv : a.eval (.tmp t) = .func (.func f) #[] #[]) (hargs : ao.map a.eval = args)
    (h : Calls P f args w fun e w' => ∃ v, e = .returned v ∧ K (a.put N v) w') : if Region.wanted oi (yielded ops a.tmps) = true then Oper.wp P oi a w K Q else K (a.put N undef) w := by
  refine call_ f args hw hN ?_ h
  have he := enters_ hf hname hb args w
  unfold execOp
  simp [hop, resolve, Deferred.ofValue, invoke, hv, hargs, he]
set_option maxRecDepth 100000 in
set_option maxHeartbeats 800000 in
theorem prog_Right.ix1 (w : World) : (Instr.index 85 (.agg prog_kinds.V) (.int .i64 1)).run Try.prog w = .ok (.func (.func 79) #[] #[]) w := by
  unfold prog_kinds.V
  first | rfl | kernel_rfl | (simp [Instr.index, Try.underlying85]; done)
set_option maxRecDepth 100000 in
set_option maxHeartbeats 800000 in
theorem prog_Right.ix2 (w : World) : (Instr.index 85 (.agg prog_kinds.V) (.int .i64 2)).run Try.prog w = .ok (.func (.func 80) #[] #[]) w := by
  unfold prog_kinds.V
  first | rfl | kernel_rfl | (simp [Instr.index, Try.underlying85]; done)
set_option maxRecDepth 100000 in
set_option maxHeartbeats 800000 in
theorem prog_Right.ix3 (w : World) : (Instr.index 85 (.agg prog_kinds.V) (.int .i64 3)).run Try.prog w = .ok (.func (.func 81) #[] #[]) w := by
  unfold prog_kinds.V
  first | rfl | kernel_rfl | (simp [Instr.index, Try.underlying85]; done)
set_option maxRecDepth 100000 in
set_option maxHeartbeats 800000 in
theorem prog_Right.ix4 (w : World) : (Instr.index 85 (.agg prog_kinds.V) (.int .i64 4)).run Try.prog w = .ok (.func (.func 78) #[] #[]) w := by
  unfold prog_kinds.V
  first | rfl | kernel_rfl | (simp [Instr.index, Try.underlying85]; done)
set_option maxRecDepth 100000 in
set_option maxHeartbeats 800000 in
theorem prog_Right.ix5 (w : World) : (Instr.index 85 (.agg prog_kinds.V) (.int .i64 5)).run Try.prog w = .ok (.func (.func 78) #[] #[]) w := by
  unfold prog_kinds.V
  first | rfl | kernel_rfl | (simp [Instr.index, Try.underlying85]; done)
def prog_Right.T3 : Bool × List (List Nat × List Nat) := (true, [([], []), ([], []), ([1], [1]), ([0, 2], [0, 2]), ([], []), ([], []), ([3, 4, 5, 0], [3, 4, 5]), ([6, 6, 0, 1, 2, 3, 4, 5, 6], [6])])
def prog_Right.B3 : List Nat := [0, 0, 2, 7, 0, 0, 63, 127]
theorem prog_Right.tab3 : rtab .any (opsOf Try.f36 3) = prog_Right.T3 := by kernel_rfl
theorem prog_Right.bits3 : waitsOk prog_Right.T3.2 prog_Right.B3 = true := by kernel_rfl
set_option maxHeartbeats 8000000 in
set_option maxRecDepth 100000 in
theorem prog_Right.calls (a0_0 a0_1 a0_2 a0_3 a0_4 a1 : Int) (r : Bool) (w : World) (h : prog_Right.f a0_0 a0_1 a0_2 a0_3 a0_4 a1 = some r) :
    Calls Try.prog 36 #[.agg #[.int .i64 a0_0, .int .i64 a0_1, .int .i64 a0_2, .int .i64 a0_3, .int .i64 a0_4], .int .i64 a1] w fun e w' => e = .returned (.bool r) ∧ Below w.heap.size w w' := by
  have hu26 := Try.underlying55
  have hu110 := Try.underlying85
  have HB := Aside0.mk (Below.refl w.heap.size w)
  obtain ⟨t, ht, h⟩ := Option.bind_eq_some_iff.1 h
  have HS := Aside0.mk ht
  clear ht
  cases t with
  | false =>
    rw [if_neg Bool.false_ne_true] at h
    obtain rfl := Option.some.inj h
    clear h
    go_enter Try.func36, Try.ntmps36
    go_wp2_with (first | ((with_reducible refine gate_dst (N := 2) rfl ?_); refine bx_ (N := 2) (cs := #[.int .i64 a0_0, .int .i64 a0_1, .int .i64 a0_2, .int .i64 a0_3, .int .i64 a0_4]) (t := 55) ?_; intro gz hg w4 hbox hb; have n_ := a_ (bs_ HB hb) (Aside0.mk hbox); clear HB hbox hb hg; obtain ⟨HB, BZ⟩ := n_; have hz0 : w4.cell? ⟨gz, 0, none⟩ = some (.int .i64 a0_0) := (blk_cell BZ.out 0).trans rfl; have hz1 : w4.cell? ⟨gz, 1, none⟩ = some (.int .i64 a0_1) := (blk_cell BZ.out 1).trans rfl; have hz2 : w4.cell? ⟨gz, 2, none⟩ = some (.int .i64 a0_2) := (blk_cell BZ.out 2).trans rfl; have hz3 : w4.cell? ⟨gz, 3, none⟩ = some (.int .i64 a0_3) := (blk_cell BZ.out 3).trans rfl; have hz4 : w4.cell? ⟨gz, 4, none⟩ = some (.int .i64 a0_4) := (blk_cell BZ.out 4).trans rfl) | ((with_reducible refine gate_callee (f := 35) rfl ?_); (try (refine gate_guard (by rfl) ?_; dsimp only)); refine goesL_ (some 6) rfl rfl Try.func35 (by kernel_rfl) rfl #[.int .i64 a1, .int .i64 8] rfl MP_ ?_; (with_reducible refine (prog_some.calls a1 8 false _ HS.out).mono ?_); rintro e w5 ⟨rfl, hd⟩; refine ⟨_, rfl, ?_⟩; have hb : Below w4.heap.size w4 w5 := (by obtain ⟨nd, rfl⟩ := hd; exact pw_below_drewN (Below.refl _ _) nd); (try clear hz0 hz1 hz2 hz3 hz4); have n_ := a_ (bs_ HB hb) (bb_ BZ hb); clear HB BZ hb hd; obtain ⟨HB, BZ⟩ := n_; have hz0 : w5.cell? ⟨gz, 0, none⟩ = some (.int .i64 a0_0) := (blk_cell BZ.out 0).trans rfl; have hz1 : w5.cell? ⟨gz, 1, none⟩ = some (.int .i64 a0_1) := (blk_cell BZ.out 1).trans rfl; have hz2 : w5.cell? ⟨gz, 2, none⟩ = some (.int .i64 a0_2) := (blk_cell BZ.out 2).trans rfl; have hz3 : w5.cell? ⟨gz, 3, none⟩ = some (.int .i64 a0_3) := (blk_cell BZ.out 3).trans rfl; have hz4 : w5.cell? ⟨gz, 4, none⟩ = some (.int .i64 a0_4) := (blk_cell BZ.out 4).trans rfl))
    go_ret
    exact ⟨rfl, HB.out⟩
  | true =>
    rw [if_pos rfl] at h
    obtain ⟨u, hu, h⟩ := Option.bind_eq_some_iff.1 h
    have HO := Aside0.mk hu
    clear hu
    cases u with
    | false =>
      rw [if_neg Bool.false_ne_true] at h
      obtain rfl := Option.some.inj h
      clear h
      go_enter Try.func36, Try.ntmps36
      go_wp2_with (first | ((with_reducible refine gate_dst (N := 2) rfl ?_); refine bx_ (N := 2) (cs := #[.int .i64 a0_0, .int .i64 a0_1, .int .i64 a0_2, .int .i64 a0_3, .int .i64 a0_4]) (t := 55) ?_; intro gz hg w4 hbox hb; have n_ := a_ (bs_ HB hb) (Aside0.mk hbox); clear HB hbox hb hg; obtain ⟨HB, BZ⟩ := n_; have hz0 : w4.cell? ⟨gz, 0, none⟩ = some (.int .i64 a0_0) := (blk_cell BZ.out 0).trans rfl; have hz1 : w4.cell? ⟨gz, 1, none⟩ = some (.int .i64 a0_1) := (blk_cell BZ.out 1).trans rfl; have hz2 : w4.cell? ⟨gz, 2, none⟩ = some (.int .i64 a0_2) := (blk_cell BZ.out 2).trans rfl; have hz3 : w4.cell? ⟨gz, 3, none⟩ = some (.int .i64 a0_3) := (blk_cell BZ.out 3).trans rfl; have hz4 : w4.cell? ⟨gz, 4, none⟩ = some (.int .i64 a0_4) := (blk_cell BZ.out 4).trans rfl) | ((with_reducible refine gate_callee (f := 35) rfl ?_); (try (refine gate_guard (by rfl) ?_; dsimp only)); refine goesL_ (some 6) rfl rfl Try.func35 (by kernel_rfl) rfl #[.int .i64 a1, .int .i64 8] rfl MP_ ?_; (with_reducible refine (prog_some.calls a1 8 true _ HS.out).mono ?_); rintro e w5 ⟨rfl, hd⟩; refine ⟨_, rfl, ?_⟩; have hb : Below w4.heap.size w4 w5 := (by obtain ⟨nd, rfl⟩ := hd; exact pw_below_drewN (Below.refl _ _) nd); (try clear hz0 hz1 hz2 hz3 hz4); have n_ := a_ (bs_ HB hb) (bb_ BZ hb); clear HB BZ hb hd; obtain ⟨HB, BZ⟩ := n_; have hz0 : w5.cell? ⟨gz, 0, none⟩ = some (.int .i64 a0_0) := (blk_cell BZ.out 0).trans rfl; have hz1 : w5.cell? ⟨gz, 1, none⟩ = some (.int .i64 a0_1) := (blk_cell BZ.out 1).trans rfl; have hz2 : w5.cell? ⟨gz, 2, none⟩ = some (.int .i64 a0_2) := (blk_cell BZ.out 2).trans rfl; have hz3 : w5.cell? ⟨gz, 3, none⟩ = some (.int .i64 a0_3) := (blk_cell BZ.out 3).trans rfl; have hz4 : w5.cell? ⟨gz, 4, none⟩ = some (.int .i64 a0_4) := (blk_cell BZ.out 4).trans rfl) | ((with_reducible refine gate_callee (f := 39) rfl ?_); (try (refine gate_guard (by rfl) ?_; dsimp only)); refine goesL_ (some 11) rfl rfl Try.func39 (by kernel_rfl) rfl #[.int .i64 a0_0, .int .i64 5] rfl MP_ ?_; (with_reducible refine (prog_one.calls a0_0 5 false _ HO.out).mono ?_); rintro e w6 ⟨rfl, hd⟩; refine ⟨_, rfl, ?_⟩; have hb : Below w5.heap.size w5 w6 := (by obtain ⟨nd, rfl⟩ := hd; exact pw_below_drewN (Below.refl _ _) nd); (try clear hz0 hz1 hz2 hz3 hz4); have n_ := a_ (bs_ HB hb) (bb_ BZ hb); clear HB BZ hb hd; obtain ⟨HB, BZ⟩ := n_; have hz0 : w6.cell? ⟨gz, 0, none⟩ = some (.int .i64 a0_0) := (blk_cell BZ.out 0).trans rfl; have hz1 : w6.cell? ⟨gz, 1, none⟩ = some (.int .i64 a0_1) := (blk_cell BZ.out 1).trans rfl; have hz2 : w6.cell? ⟨gz, 2, none⟩ = some (.int .i64 a0_2) := (blk_cell BZ.out 2).trans rfl; have hz3 : w6.cell? ⟨gz, 3, none⟩ = some (.int .i64 a0_3) := (blk_cell BZ.out 3).trans rfl; have hz4 : w6.cell? ⟨gz, 4, none⟩ = some (.int .i64 a0_4) := (blk_cell BZ.out 4).trans rfl))
      go_ret
      exact ⟨rfl, HB.out⟩
    | true =>
      rw [if_pos rfl] at h
      by_cases c1 : a0_0 = 1
      · subst c1
        rw [if_pos rfl] at h
        have HF := Aside0.mk h
        clear h
        go_enter Try.func36, Try.ntmps36
        go_wp2_with (first | ((with_reducible refine gate_dst (N := 2) rfl ?_); refine bx_ (N := 2) (cs := #[.int .i64 1, .int .i64 a0_1, .int .i64 a0_2, .int .i64 a0_3, .int .i64 a0_4]) (t := 55) ?_; intro gz hg w4 hbox hb; have n_ := a_ (bs_ HB hb) (Aside0.mk hbox); clear HB hbox hb hg; obtain ⟨HB, BZ⟩ := n_; have hz0 : w4.cell? ⟨gz, 0, none⟩ = some (.int .i64 1) := (blk_cell BZ.out 0).trans rfl; have hz1 : w4.cell? ⟨gz, 1, none⟩ = some (.int .i64 a0_1) := (blk_cell BZ.out 1).trans rfl; have hz2 : w4.cell? ⟨gz, 2, none⟩ = some (.int .i64 a0_2) := (blk_cell BZ.out 2).trans rfl; have hz3 : w4.cell? ⟨gz, 3, none⟩ = some (.int .i64 a0_3) := (blk_cell BZ.out 3).trans rfl; have hz4 : w4.cell? ⟨gz, 4, none⟩ = some (.int .i64 a0_4) := (blk_cell BZ.out 4).trans rfl) | ((with_reducible refine gate_callee (f := 35) rfl ?_); (try (refine gate_guard (by rfl) ?_; dsimp only)); refine goesL_ (some 6) rfl rfl Try.func35 (by kernel_rfl) rfl #[.int .i64 a1, .int .i64 8] rfl MP_ ?_; (with_reducible refine (prog_some.calls a1 8 true _ HS.out).mono ?_); rintro e w5 ⟨rfl, hd⟩; refine ⟨_, rfl, ?_⟩; have hb : Below w4.heap.size w4 w5 := (by obtain ⟨nd, rfl⟩ := hd; exact pw_below_drewN (Below.refl _ _) nd); (try clear hz0 hz1 hz2 hz3 hz4); have n_ := a_ (bs_ HB hb) (bb_ BZ hb); clear HB BZ hb hd; obtain ⟨HB, BZ⟩ := n_; have hz0 : w5.cell? ⟨gz, 0, none⟩ = some (.int .i64 1) := (blk_cell BZ.out 0).trans rfl; have hz1 : w5.cell? ⟨gz, 1, none⟩ = some (.int .i64 a0_1) := (blk_cell BZ.out 1).trans rfl; have hz2 : w5.cell? ⟨gz, 2, none⟩ = some (.int .i64 a0_2) := (blk_cell BZ.out 2).trans rfl; have hz3 : w5.cell? ⟨gz, 3, none⟩ = some (.int .i64 a0_3) := (blk_cell BZ.out 3).trans rfl; have hz4 : w5.cell? ⟨gz, 4, none⟩ = some (.int .i64 a0_4) := (blk_cell BZ.out 4).trans rfl) | ((with_reducible refine gate_callee (f := 39) rfl ?_); (try (refine gate_guard (by rfl) ?_; dsimp only)); refine goesL_ (some 11) rfl rfl Try.func39 (by kernel_rfl) rfl #[.int .i64 1, .int .i64 5] rfl MP_ ?_; (with_reducible refine (prog_one.calls 1 5 true _ HO.out).mono ?_); rintro e w6 ⟨rfl, hd⟩; refine ⟨_, rfl, ?_⟩; have hb : Below w5.heap.size w5 w6 := (by obtain ⟨nd, rfl⟩ := hd; exact pw_below_drewN (Below.refl _ _) nd); (try clear hz0 hz1 hz2 hz3 hz4); have n_ := a_ (bs_ HB hb) (bb_ BZ hb); clear HB BZ hb hd; obtain ⟨HB, BZ⟩ := n_; have hz0 : w6.cell? ⟨gz, 0, none⟩ = some (.int .i64 1) := (blk_cell BZ.out 0).trans rfl; have hz1 : w6.cell? ⟨gz, 1, none⟩ = some (.int .i64 a0_1) := (blk_cell BZ.out 1).trans rfl; have hz2 : w6.cell? ⟨gz, 2, none⟩ = some (.int .i64 a0_2) := (blk_cell BZ.out 2).trans rfl; have hz3 : w6.cell? ⟨gz, 3, none⟩ = some (.int .i64 a0_3) := (blk_cell BZ.out 3).trans rfl; have hz4 : w6.cell? ⟨gz, 4, none⟩ = some (.int .i64 a0_4) := (blk_cell BZ.out 4).trans rfl))
        clear hz0 hz1 hz2 hz3 hz4
        have n_ := a_ (Aside0.mk HB.out.drew) (Aside0.mk (blk_drew BZ.out))
        clear HB BZ
        obtain ⟨HB, BZ⟩ := n_
        refine start_ (n := 8) (S := fun w' => w'.cell? ⟨gz, 0, none⟩ = some (.int .i64 1) ∧ w'.cell? ⟨gz, 1, none⟩ = some (.int .i64 a0_1) ∧ w'.cell? ⟨gz, 2, none⟩ = some (.int .i64 a0_2) ∧ w'.cell? ⟨gz, 3, none⟩ = some (.int .i64 a0_3) ∧ w'.cell? ⟨gz, 4, none⟩ = some (.int .i64 a0_4)) (ds := []) #[false, false, false, false, false, false, false, false] (by kernel_rfl) rfl rfl ⟨(blk_cell BZ.out 0).trans rfl, (blk_cell BZ.out 1).trans rfl, (blk_cell BZ.out 2).trans rfl, (blk_cell BZ.out 3).trans rfl, (blk_cell BZ.out 4).trans rfl⟩ (fun hHeld => ?_); refine with_tabW prog_Right.tab3 prog_Right.bits3 (fun HT_ HW_ => ?_)
        generalize hwd_ : w6.drew = wd at HB BZ hHeld ⊢
        clear hwd_
        refine pu_ 1 (some 15) ?_
        refine pu_ 5 (some 19) ?_
        refine take_ (i := 2) (N := some 16) (v := ?_) (a' := ?_) #[false, true, true, false, false, true, false, false] rfl rfl (take_ofW HT_.out HW_.out (by kernel_rfl)) (fun _ _ _ h => h) (Or.inl ⟨by rfl, ?_⟩) hHeld ?_ ?_
        rotate_left
        · rintro w' ⟨s0, s1, s2, s3, s4⟩
          go_simp
          with_reducible rfl
        rotate_left
        · exact AP_
        refine take_ (i := 4) (N := some 18) (v := ?_) (a' := ?_) #[false, true, true, false, true, true, false, false] rfl rfl (take_ofW HT_.out HW_.out (by kernel_rfl)) (fun _ _ _ h => h) (Or.inl ⟨by rfl, ?_⟩) hHeld ?_ ?_
        rotate_left
        · rintro w' ⟨s0, s1, s2, s3, s4⟩
          go_simp
          with_reducible rfl
        rotate_left
        · exact AP_
        refine on_ 0 (some 14) (fun K hK => ?_)
        refine goes_ Try.func54 (by kernel_rfl) rfl #[] (by rfl) rfl rfl MP_ ?_
        with_reducible refine (prog_kinds.calls _).mono ?_
        rintro e_ w7 ⟨rfl, hb⟩
        refine ⟨_, rfl, ?_⟩
        have n_ := a_ (bs_ HB hb) (bb_ BZ hb)
        clear HB BZ hb
        obtain ⟨HB, BZ⟩ := n_
        refine hK.out _ _ ⟨(blk_cell BZ.out 0).trans rfl, (blk_cell BZ.out 1).trans rfl, (blk_cell BZ.out 2).trans rfl, (blk_cell BZ.out 3).trans rfl, (blk_cell BZ.out 4).trans rfl⟩ (fun hHeld => ?_)
        clear hK K
        refine nm_ ?_
        have hix := prog_Right.ix1
        unfold prog_kinds.V at hix ⊢
        refine pu_ 3 (some 17) ?_
        clear hix
        refine on_ 6 (some 20) (fun K hK => ?_)
        refine goesT_ Try.func79 (by kernel_rfl) rfl #[.agg #[.int .i64 1, .int .i64 a0_1, .int .i64 a0_2, .int .i64 a0_3, .int .i64 a0_4], .int .i64 a1] (by rfl) rfl rfl rfl MP_ ?_
        with_reducible refine (prog_kinds_2.calls _ _ _ _ _ _ r _ HF.out).mono ?_
        rintro e_ w8 ⟨rfl, hb⟩
        refine ⟨_, rfl, ?_⟩
        have n_ := a_ (bs_ HB hb) (bb_ BZ hb)
        clear HB BZ hb
        obtain ⟨HB, BZ⟩ := n_
        refine hK.out _ _ ⟨(blk_cell BZ.out 0).trans rfl, (blk_cell BZ.out 1).trans rfl, (blk_cell BZ.out 2).trans rfl, (blk_cell BZ.out 3).trans rfl, (blk_cell BZ.out 4).trans rfl⟩ (fun hHeld => ?_)
        clear hK K
        refine nm_ ?_
        refine pu_ 7 (some 4) ?_
        refine done_ (done_of HT_.out (by kernel_rfl)) ?_
        go_wp2
        go_ret
        exact ⟨rfl, HB.out⟩
      rw [if_neg c1] at h
      by_cases c2 : a0_0 = 2
      · subst c2
        rw [if_pos rfl] at h
        have HF := Aside0.mk h
        clear h
        go_enter Try.func36, Try.ntmps36
        go_wp2_with (first | ((with_reducible refine gate_dst (N := 2) rfl ?_); refine bx_ (N := 2) (cs := #[.int .i64 2, .int .i64 a0_1, .int .i64 a0_2, .int .i64 a0_3, .int .i64 a0_4]) (t := 55) ?_; intro gz hg w4 hbox hb; have n_ := a_ (bs_ HB hb) (Aside0.mk hbox); clear HB hbox hb hg; obtain ⟨HB, BZ⟩ := n_; have hz0 : w4.cell? ⟨gz, 0, none⟩ = some (.int .i64 2) := (blk_cell BZ.out 0).trans rfl; have hz1 : w4.cell? ⟨gz, 1, none⟩ = some (.int .i64 a0_1) := (blk_cell BZ.out 1).trans rfl; have hz2 : w4.cell? ⟨gz, 2, none⟩ = some (.int .i64 a0_2) := (blk_cell BZ.out 2).trans rfl; have hz3 : w4.cell? ⟨gz, 3, none⟩ = some (.int .i64 a0_3) := (blk_cell BZ.out 3).trans rfl; have hz4 : w4.cell? ⟨gz, 4, none⟩ = some (.int .i64 a0_4) := (blk_cell BZ.out 4).trans rfl) | ((with_reducible refine gate_callee (f := 35) rfl ?_); (try (refine gate_guard (by rfl) ?_; dsimp only)); refine goesL_ (some 6) rfl rfl Try.func35 (by kernel_rfl) rfl #[.int .i64 a1, .int .i64 8] rfl MP_ ?_; (with_reducible refine (prog_some.calls a1 8 true _ HS.out).mono ?_); rintro e w5 ⟨rfl, hd⟩; refine ⟨_, rfl, ?_⟩; have hb : Below w4.heap.size w4 w5 := (by obtain ⟨nd, rfl⟩ := hd; exact pw_below_drewN (Below.refl _ _) nd); (try clear hz0 hz1 hz2 hz3 hz4); have n_ := a_ (bs_ HB hb) (bb_ BZ hb); clear HB BZ hb hd; obtain ⟨HB, BZ⟩ := n_; have hz0 : w5.cell? ⟨gz, 0, none⟩ = some (.int .i64 2) := (blk_cell BZ.out 0).trans rfl; have hz1 : w5.cell? ⟨gz, 1, none⟩ = some (.int .i64 a0_1) := (blk_cell BZ.out 1).trans rfl; have hz2 : w5.cell? ⟨gz, 2, none⟩ = some (.int .i64 a0_2) := (blk_cell BZ.out 2).trans rfl; have hz3 : w5.cell? ⟨gz, 3, none⟩ = some (.int .i64 a0_3) := (blk_cell BZ.out 3).trans rfl; have hz4 : w5.cell? ⟨gz, 4, none⟩ = some (.int .i64 a0_4) := (blk_cell BZ.out 4).trans rfl) | ((with_reducible refine gate_callee (f := 39) rfl ?_); (try (refine gate_guard (by rfl) ?_; dsimp only)); refine goesL_ (some 11) rfl rfl Try.func39 (by kernel_rfl) rfl #[.int .i64 2, .int .i64 5] rfl MP_ ?_; (with_reducible refine (prog_one.calls 2 5 true _ HO.out).mono ?_); rintro e w6 ⟨rfl, hd⟩; refine ⟨_, rfl, ?_⟩; have hb : Below w5.heap.size w5 w6 := (by obtain ⟨nd, rfl⟩ := hd; exact pw_below_drewN (Below.refl _ _) nd); (try clear hz0 hz1 hz2 hz3 hz4); have n_ := a_ (bs_ HB hb) (bb_ BZ hb); clear HB BZ hb hd; obtain ⟨HB, BZ⟩ := n_; have hz0 : w6.cell? ⟨gz, 0, none⟩ = some (.int .i64 2) := (blk_cell BZ.out 0).trans rfl; have hz1 : w6.cell? ⟨gz, 1, none⟩ = some (.int .i64 a0_1) := (blk_cell BZ.out 1).trans rfl; have hz2 : w6.cell? ⟨gz, 2, none⟩ = some (.int .i64 a0_2) := (blk_cell BZ.out 2).trans rfl; have hz3 : w6.cell? ⟨gz, 3, none⟩ = some (.int .i64 a0_3) := (blk_cell BZ.out 3).trans rfl; have hz4 : w6.cell? ⟨gz, 4, none⟩ = some (.int .i64 a0_4) := (blk_cell BZ.out 4).trans rfl))
        clear hz0 hz1 hz2 hz3 hz4
        have n_ := a_ (Aside0.mk HB.out.drew) (Aside0.mk (blk_drew BZ.out))
        clear HB BZ
        obtain ⟨HB, BZ⟩ := n_
        refine start_ (n := 8) (S := fun w' => w'.cell? ⟨gz, 0, none⟩ = some (.int .i64 2) ∧ w'.cell? ⟨gz, 1, none⟩ = some (.int .i64 a0_1) ∧ w'.cell? ⟨gz, 2, none⟩ = some (.int .i64 a0_2) ∧ w'.cell? ⟨gz, 3, none⟩ = some (.int .i64 a0_3) ∧ w'.cell? ⟨gz, 4, none⟩ = some (.int .i64 a0_4)) (ds := []) #[false, false, false, false, false, false, false, false] (by kernel_rfl) rfl rfl ⟨(blk_cell BZ.out 0).trans rfl, (blk_cell BZ.out 1).trans rfl, (blk_cell BZ.out 2).trans rfl, (blk_cell BZ.out 3).trans rfl, (blk_cell BZ.out 4).trans rfl⟩ (fun hHeld => ?_); refine with_tabW prog_Right.tab3 prog_Right.bits3 (fun HT_ HW_ => ?_)
        generalize hwd_ : w6.drew = wd at HB BZ hHeld ⊢
        clear hwd_
        refine pu_ 1 (some 15) ?_
        refine pu_ 5 (some 19) ?_
        refine take_ (i := 2) (N := some 16) (v := ?_) (a' := ?_) #[false, true, true, false, false, true, false, false] rfl rfl (take_ofW HT_.out HW_.out (by kernel_rfl)) (fun _ _ _ h => h) (Or.inl ⟨by rfl, ?_⟩) hHeld ?_ ?_
        rotate_left
        · rintro w' ⟨s0, s1, s2, s3, s4⟩
          go_simp
          with_reducible rfl
        rotate_left
        · exact AP_
        refine take_ (i := 4) (N := some 18) (v := ?_) (a' := ?_) #[false, true, true, false, true, true, false, false] rfl rfl (take_ofW HT_.out HW_.out (by kernel_rfl)) (fun _ _ _ h => h) (Or.inl ⟨by rfl, ?_⟩) hHeld ?_ ?_
        rotate_left
        · rintro w' ⟨s0, s1, s2, s3, s4⟩
          go_simp
          with_reducible rfl
        rotate_left
        · exact AP_
        refine on_ 0 (some 14) (fun K hK => ?_)
        refine goes_ Try.func54 (by kernel_rfl) rfl #[] (by rfl) rfl rfl MP_ ?_
        with_reducible refine (prog_kinds.calls _).mono ?_
        rintro e_ w7 ⟨rfl, hb⟩
        refine ⟨_, rfl, ?_⟩
        have n_ := a_ (bs_ HB hb) (bb_ BZ hb)
        clear HB BZ hb
        obtain ⟨HB, BZ⟩ := n_
        refine hK.out _ _ ⟨(blk_cell BZ.out 0).trans rfl, (blk_cell BZ.out 1).trans rfl, (blk_cell BZ.out 2).trans rfl, (blk_cell BZ.out 3).trans rfl, (blk_cell BZ.out 4).trans rfl⟩ (fun hHeld => ?_)
        clear hK K
        refine nm_ ?_
        have hix := prog_Right.ix2
        unfold prog_kinds.V at hix ⊢
        refine pu_ 3 (some 17) ?_
        clear hix
        refine on_ 6 (some 20) (fun K hK => ?_)
        refine goesT_ Try.func80 (by kernel_rfl) rfl #[.agg #[.int .i64 2, .int .i64 a0_1, .int .i64 a0_2, .int .i64 a0_3, .int .i64 a0_4], .int .i64 a1] (by rfl) rfl rfl rfl MP_ ?_
        with_reducible refine (prog_kinds_3.calls _ _ _ _ _ _ r _ HF.out).mono ?_
        rintro e_ w8 ⟨rfl, hb⟩
        refine ⟨_, rfl, ?_⟩
        have n_ := a_ (bs_ HB hb) (bb_ BZ hb)
        clear HB BZ hb
        obtain ⟨HB, BZ⟩ := n_
        refine hK.out _ _ ⟨(blk_cell BZ.out 0).trans rfl, (blk_cell BZ.out 1).trans rfl, (blk_cell BZ.out 2).trans rfl, (blk_cell BZ.out 3).trans rfl, (blk_cell BZ.out 4).trans rfl⟩ (fun hHeld => ?_)
        clear hK K
        refine nm_ ?_
        refine pu_ 7 (some 4) ?_
        refine done_ (done_of HT_.out (by kernel_rfl)) ?_
        go_wp2
        go_ret
        exact ⟨rfl, HB.out⟩
      rw [if_neg c2] at h
      by_cases c3 : a0_0 = 3
      · subst c3
        rw [if_pos rfl] at h
        have HF := Aside0.mk h
        clear h
        go_enter Try.func36, Try.ntmps36
        go_wp2_with (first | ((with_reducible refine gate_dst (N := 2) rfl ?_); refine bx_ (N := 2) (cs := #[.int .i64 3, .int .i64 a0_1, .int .i64 a0_2, .int .i64 a0_3, .int .i64 a0_4]) (t := 55) ?_; intro gz hg w4 hbox hb; have n_ := a_ (bs_ HB hb) (Aside0.mk hbox); clear HB hbox hb hg; obtain ⟨HB, BZ⟩ := n_; have hz0 : w4.cell? ⟨gz, 0, none⟩ = some (.int .i64 3) := (blk_cell BZ.out 0).trans rfl; have hz1 : w4.cell? ⟨gz, 1, none⟩ = some (.int .i64 a0_1) := (blk_cell BZ.out 1).trans rfl; have hz2 : w4.cell? ⟨gz, 2, none⟩ = some (.int .i64 a0_2) := (blk_cell BZ.out 2).trans rfl; have hz3 : w4.cell? ⟨gz, 3, none⟩ = some (.int .i64 a0_3) := (blk_cell BZ.out 3).trans rfl; have hz4 : w4.cell? ⟨gz, 4, none⟩ = some (.int .i64 a0_4) := (blk_cell BZ.out 4).trans rfl) | ((with_reducible refine gate_callee (f := 35) rfl ?_); (try (refine gate_guard (by rfl) ?_; dsimp only)); refine goesL_ (some 6) rfl rfl Try.func35 (by kernel_rfl) rfl #[.int .i64 a1, .int .i64 8] rfl MP_ ?_; (with_reducible refine (prog_some.calls a1 8 true _ HS.out).mono ?_); rintro e w5 ⟨rfl, hd⟩; refine ⟨_, rfl, ?_⟩; have hb : Below w4.heap.size w4 w5 := (by obtain ⟨nd, rfl⟩ := hd; exact pw_below_drewN (Below.refl _ _) nd); (try clear hz0 hz1 hz2 hz3 hz4); have n_ := a_ (bs_ HB hb) (bb_ BZ hb); clear HB BZ hb hd; obtain ⟨HB, BZ⟩ := n_; have hz0 : w5.cell? ⟨gz, 0, none⟩ = some (.int .i64 3) := (blk_cell BZ.out 0).trans rfl; have hz1 : w5.cell? ⟨gz, 1, none⟩ = some (.int .i64 a0_1) := (blk_cell BZ.out 1).trans rfl; have hz2 : w5.cell? ⟨gz, 2, none⟩ = some (.int .i64 a0_2) := (blk_cell BZ.out 2).trans rfl; have hz3 : w5.cell? ⟨gz, 3, none⟩ = some (.int .i64 a0_3) := (blk_cell BZ.out 3).trans rfl; have hz4 : w5.cell? ⟨gz, 4, none⟩ = some (.int .i64 a0_4) := (blk_cell BZ.out 4).trans rfl) | ((with_reducible refine gate_callee (f := 39) rfl ?_); (try (refine gate_guard (by rfl) ?_; dsimp only)); refine goesL_ (some 11) rfl rfl Try.func39 (by kernel_rfl) rfl #[.int .i64 3, .int .i64 5] rfl MP_ ?_; (with_reducible refine (prog_one.calls 3 5 true _ HO.out).mono ?_); rintro e w6 ⟨rfl, hd⟩; refine ⟨_, rfl, ?_⟩; have hb : Below w5.heap.size w5 w6 := (by obtain ⟨nd, rfl⟩ := hd; exact pw_below_drewN (Below.refl _ _) nd); (try clear hz0 hz1 hz2 hz3 hz4); have n_ := a_ (bs_ HB hb) (bb_ BZ hb); clear HB BZ hb hd; obtain ⟨HB, BZ⟩ := n_; have hz0 : w6.cell? ⟨gz, 0, none⟩ = some (.int .i64 3) := (blk_cell BZ.out 0).trans rfl; have hz1 : w6.cell? ⟨gz, 1, none⟩ = some (.int .i64 a0_1) := (blk_cell BZ.out 1).trans rfl; have hz2 : w6.cell? ⟨gz, 2, none⟩ = some (.int .i64 a0_2) := (blk_cell BZ.out 2).trans rfl; have hz3 : w6.cell? ⟨gz, 3, none⟩ = some (.int .i64 a0_3) := (blk_cell BZ.out 3).trans rfl; have hz4 : w6.cell? ⟨gz, 4, none⟩ = some (.int .i64 a0_4) := (blk_cell BZ.out 4).trans rfl))
        clear hz0 hz1 hz2 hz3 hz4
        have n_ := a_ (Aside0.mk HB.out.drew) (Aside0.mk (blk_drew BZ.out))
        clear HB BZ
        obtain ⟨HB, BZ⟩ := n_
        refine start_ (n := 8) (S := fun w' => w'.cell? ⟨gz, 0, none⟩ = some (.int .i64 3) ∧ w'.cell? ⟨gz, 1, none⟩ = some (.int .i64 a0_1) ∧ w'.cell? ⟨gz, 2, none⟩ = some (.int .i64 a0_2) ∧ w'.cell? ⟨gz, 3, none⟩ = some (.int .i64 a0_3) ∧ w'.cell? ⟨gz, 4, none⟩ = some (.int .i64 a0_4)) (ds := []) #[false, false, false, false, false, false, false, false] (by kernel_rfl) rfl rfl ⟨(blk_cell BZ.out 0).trans rfl, (blk_cell BZ.out 1).trans rfl, (blk_cell BZ.out 2).trans rfl, (blk_cell BZ.out 3).trans rfl, (blk_cell BZ.out 4).trans rfl⟩ (fun hHeld => ?_); refine with_tabW prog_Right.tab3 prog_Right.bits3 (fun HT_ HW_ => ?_)
        generalize hwd_ : w6.drew = wd at HB BZ hHeld ⊢
        clear hwd_
        refine pu_ 1 (some 15) ?_
        refine pu_ 5 (some 19) ?_
        refine take_ (i := 2) (N := some 16) (v := ?_) (a' := ?_) #[false, true, true, false, false, true, false, false] rfl rfl (take_ofW HT_.out HW_.out (by kernel_rfl)) (fun _ _ _ h => h) (Or.inl ⟨by rfl, ?_⟩) hHeld ?_ ?_
        rotate_left
        · rintro w' ⟨s0, s1, s2, s3, s4⟩
          go_simp
          with_reducible rfl
        rotate_left
        · exact AP_
        refine take_ (i := 4) (N := some 18) (v := ?_) (a' := ?_) #[false, true, true, false, true, true, false, false] rfl rfl (take_ofW HT_.out HW_.out (by kernel_rfl)) (fun _ _ _ h => h) (Or.inl ⟨by rfl, ?_⟩) hHeld ?_ ?_
        rotate_left
        · rintro w' ⟨s0, s1, s2, s3, s4⟩
          go_simp
          with_reducible rfl
        rotate_left
        · exact AP_
        refine on_ 0 (some 14) (fun K hK => ?_)
        refine goes_ Try.func54 (by kernel_rfl) rfl #[] (by rfl) rfl rfl MP_ ?_
        with_reducible refine (prog_kinds.calls _).mono ?_
        rintro e_ w7 ⟨rfl, hb⟩
        refine ⟨_, rfl, ?_⟩
        have n_ := a_ (bs_ HB hb) (bb_ BZ hb)
        clear HB BZ hb
        obtain ⟨HB, BZ⟩ := n_
        refine hK.out _ _ ⟨(blk_cell BZ.out 0).trans rfl, (blk_cell BZ.out 1).trans rfl, (blk_cell BZ.out 2).trans rfl, (blk_cell BZ.out 3).trans rfl, (blk_cell BZ.out 4).trans rfl⟩ (fun hHeld => ?_)
        clear hK K
        refine nm_ ?_
        have hix := prog_Right.ix3
        unfold prog_kinds.V at hix ⊢
        refine pu_ 3 (some 17) ?_
        clear hix
        refine on_ 6 (some 20) (fun K hK => ?_)
        refine goesT_ Try.func81 (by kernel_rfl) rfl #[.agg #[.int .i64 3, .int .i64 a0_1, .int .i64 a0_2, .int .i64 a0_3, .int .i64 a0_4], .int .i64 a1] (by rfl) rfl rfl rfl MP_ ?_
        with_reducible refine (prog_kinds_4.calls _ _ _ _ _ _ r _ HF.out).mono ?_
        rintro e_ w8 ⟨rfl, hb⟩
        refine ⟨_, rfl, ?_⟩
        have n_ := a_ (bs_ HB hb) (bb_ BZ hb)
        clear HB BZ hb
        obtain ⟨HB, BZ⟩ := n_
        refine hK.out _ _ ⟨(blk_cell BZ.out 0).trans rfl, (blk_cell BZ.out 1).trans rfl, (blk_cell BZ.out 2).trans rfl, (blk_cell BZ.out 3).trans rfl, (blk_cell BZ.out 4).trans rfl⟩ (fun hHeld => ?_)
        clear hK K
        refine nm_ ?_
        refine pu_ 7 (some 4) ?_
        refine done_ (done_of HT_.out (by kernel_rfl)) ?_
        go_wp2
        go_ret
        exact ⟨rfl, HB.out⟩
      rw [if_neg c3] at h
      by_cases c4 : a0_0 = 4
      · subst c4
        rw [if_pos rfl] at h
        have HF := Aside0.mk h
        clear h
        go_enter Try.func36, Try.ntmps36
        go_wp2_with (first | ((with_reducible refine gate_dst (N := 2) rfl ?_); refine bx_ (N := 2) (cs := #[.int .i64 4, .int .i64 a0_1, .int .i64 a0_2, .int .i64 a0_3, .int .i64 a0_4]) (t := 55) ?_; intro gz hg w4 hbox hb; have n_ := a_ (bs_ HB hb) (Aside0.mk hbox); clear HB hbox hb hg; obtain ⟨HB, BZ⟩ := n_; have hz0 : w4.cell? ⟨gz, 0, none⟩ = some (.int .i64 4) := (blk_cell BZ.out 0).trans rfl; have hz1 : w4.cell? ⟨gz, 1, none⟩ = some (.int .i64 a0_1) := (blk_cell BZ.out 1).trans rfl; have hz2 : w4.cell? ⟨gz, 2, none⟩ = some (.int .i64 a0_2) := (blk_cell BZ.out 2).trans rfl; have hz3 : w4.cell? ⟨gz, 3, none⟩ = some (.int .i64 a0_3) := (blk_cell BZ.out 3).trans rfl; have hz4 : w4.cell? ⟨gz, 4, none⟩ = some (.int .i64 a0_4) := (blk_cell BZ.out 4).trans rfl) | ((with_reducible refine gate_callee (f := 35) rfl ?_); (try (refine gate_guard (by rfl) ?_; dsimp only)); refine goesL_ (some 6) rfl rfl Try.func35 (by kernel_rfl) rfl #[.int .i64 a1, .int .i64 8] rfl MP_ ?_; (with_reducible refine (prog_some.calls a1 8 true _ HS.out).mono ?_); rintro e w5 ⟨rfl, hd⟩; refine ⟨_, rfl, ?_⟩; have hb : Below w4.heap.size w4 w5 := (by obtain ⟨nd, rfl⟩ := hd; exact pw_below_drewN (Below.refl _ _) nd); (try clear hz0 hz1 hz2 hz3 hz4); have n_ := a_ (bs_ HB hb) (bb_ BZ hb); clear HB BZ hb hd; obtain ⟨HB, BZ⟩ := n_; have hz0 : w5.cell? ⟨gz, 0, none⟩ = some (.int .i64 4) := (blk_cell BZ.out 0).trans rfl; have hz1 : w5.cell? ⟨gz, 1, none⟩ = some (.int .i64 a0_1) := (blk_cell BZ.out 1).trans rfl; have hz2 : w5.cell? ⟨gz, 2, none⟩ = some (.int .i64 a0_2) := (blk_cell BZ.out 2).trans rfl; have hz3 : w5.cell? ⟨gz, 3, none⟩ = some (.int .i64 a0_3) := (blk_cell BZ.out 3).trans rfl; have hz4 : w5.cell? ⟨gz, 4, none⟩ = some (.int .i64 a0_4) := (blk_cell BZ.out 4).trans rfl) | ((with_reducible refine gate_callee (f := 39) rfl ?_); (try (refine gate_guard (by rfl) ?_; dsimp only)); refine goesL_ (some 11) rfl rfl Try.func39 (by kernel_rfl) rfl #[.int .i64 4, .int .i64 5] rfl MP_ ?_; (with_reducible refine (prog_one.calls 4 5 true _ HO.out).mono ?_); rintro e w6 ⟨rfl, hd⟩; refine ⟨_, rfl, ?_⟩; have hb : Below w5.heap.size w5 w6 := (by obtain ⟨nd, rfl⟩ := hd; exact pw_below_drewN (Below.refl _ _) nd); (try clear hz0 hz1 hz2 hz3 hz4); have n_ := a_ (bs_ HB hb) (bb_ BZ hb); clear HB BZ hb hd; obtain ⟨HB, BZ⟩ := n_; have hz0 : w6.cell? ⟨gz, 0, none⟩ = some (.int .i64 4) := (blk_cell BZ.out 0).trans rfl; have hz1 : w6.cell? ⟨gz, 1, none⟩ = some (.int .i64 a0_1) := (blk_cell BZ.out 1).trans rfl; have hz2 : w6.cell? ⟨gz, 2, none⟩ = some (.int .i64 a0_2) := (blk_cell BZ.out 2).trans rfl; have hz3 : w6.cell? ⟨gz, 3, none⟩ = some (.int .i64 a0_3) := (blk_cell BZ.out 3).trans rfl; have hz4 : w6.cell? ⟨gz, 4, none⟩ = some (.int .i64 a0_4) := (blk_cell BZ.out 4).trans rfl))
        clear hz0 hz1 hz2 hz3 hz4
        have n_ := a_ (Aside0.mk HB.out.drew) (Aside0.mk (blk_drew BZ.out))
        clear HB BZ
        obtain ⟨HB, BZ⟩ := n_
        refine start_ (n := 8) (S := fun w' => w'.cell? ⟨gz, 0, none⟩ = some (.int .i64 4) ∧ w'.cell? ⟨gz, 1, none⟩ = some (.int .i64 a0_1) ∧ w'.cell? ⟨gz, 2, none⟩ = some (.int .i64 a0_2) ∧ w'.cell? ⟨gz, 3, none⟩ = some (.int .i64 a0_3) ∧ w'.cell? ⟨gz, 4, none⟩ = some (.int .i64 a0_4)) (ds := []) #[false, false, false, false, false, false, false, false] (by kernel_rfl) rfl rfl ⟨(blk_cell BZ.out 0).trans rfl, (blk_cell BZ.out 1).trans rfl, (blk_cell BZ.out 2).trans rfl, (blk_cell BZ.out 3).trans rfl, (blk_cell BZ.out 4).trans rfl⟩ (fun hHeld => ?_); refine with_tabW prog_Right.tab3 prog_Right.bits3 (fun HT_ HW_ => ?_)
        generalize hwd_ : w6.drew = wd at HB BZ hHeld ⊢
        clear hwd_
        refine pu_ 1 (some 15) ?_
        refine pu_ 5 (some 19) ?_
        refine take_ (i := 2) (N := some 16) (v := ?_) (a' := ?_) #[false, true, true, false, false, true, false, false] rfl rfl (take_ofW HT_.out HW_.out (by kernel_rfl)) (fun _ _ _ h => h) (Or.inl ⟨by rfl, ?_⟩) hHeld ?_ ?_
        rotate_left
        · rintro w' ⟨s0, s1, s2, s3, s4⟩
          go_simp
          with_reducible rfl
        rotate_left
        · exact AP_
        refine take_ (i := 4) (N := some 18) (v := ?_) (a' := ?_) #[false, true, true, false, true, true, false, false] rfl rfl (take_ofW HT_.out HW_.out (by kernel_rfl)) (fun _ _ _ h => h) (Or.inl ⟨by rfl, ?_⟩) hHeld ?_ ?_
        rotate_left
        · rintro w' ⟨s0, s1, s2, s3, s4⟩
          go_simp
          with_reducible rfl
        rotate_left
        · exact AP_
        refine on_ 0 (some 14) (fun K hK => ?_)
        refine goes_ Try.func54 (by kernel_rfl) rfl #[] (by rfl) rfl rfl MP_ ?_
        with_reducible refine (prog_kinds.calls _).mono ?_
        rintro e_ w7 ⟨rfl, hb⟩
        refine ⟨_, rfl, ?_⟩
        have n_ := a_ (bs_ HB hb) (bb_ BZ hb)
        clear HB BZ hb
        obtain ⟨HB, BZ⟩ := n_
        refine hK.out _ _ ⟨(blk_cell BZ.out 0).trans rfl, (blk_cell BZ.out 1).trans rfl, (blk_cell BZ.out 2).trans rfl, (blk_cell BZ.out 3).trans rfl, (blk_cell BZ.out 4).trans rfl⟩ (fun hHeld => ?_)
        clear hK K
        refine nm_ ?_
        have hix := prog_Right.ix4
        unfold prog_kinds.V at hix ⊢
        refine pu_ 3 (some 17) ?_
        clear hix
        refine on_ 6 (some 20) (fun K hK => ?_)
        refine goesT_ Try.func78 (by kernel_rfl) rfl #[.agg #[.int .i64 4, .int .i64 a0_1, .int .i64 a0_2, .int .i64 a0_3, .int .i64 a0_4], .int .i64 a1] (by rfl) rfl rfl rfl MP_ ?_
        with_reducible refine (prog_kinds_1.calls _ _ _ _ _ _ r _ HF.out).mono ?_
        rintro e_ w8 ⟨rfl, hb⟩
        refine ⟨_, rfl, ?_⟩
        have n_ := a_ (bs_ HB hb) (bb_ BZ hb)
        clear HB BZ hb
        obtain ⟨HB, BZ⟩ := n_
        refine hK.out _ _ ⟨(blk_cell BZ.out 0).trans rfl, (blk_cell BZ.out 1).trans rfl, (blk_cell BZ.out 2).trans rfl, (blk_cell BZ.out 3).trans rfl, (blk_cell BZ.out 4).trans rfl⟩ (fun hHeld => ?_)
        clear hK K
        refine nm_ ?_
        refine pu_ 7 (some 4) ?_
        refine done_ (done_of HT_.out (by kernel_rfl)) ?_
        go_wp2
        go_ret
        exact ⟨rfl, HB.out⟩
      rw [if_neg c4] at h
      by_cases c5 : a0_0 = 5
      · subst c5
        rw [if_pos rfl] at h
        have HF := Aside0.mk h
        clear h
        go_enter Try.func36, Try.ntmps36
        go_wp2_with (first | ((with_reducible refine gate_dst (N := 2) rfl ?_); refine bx_ (N := 2) (cs := #[.int .i64 5, .int .i64 a0_1, .int .i64 a0_2, .int .i64 a0_3, .int .i64 a0_4]) (t := 55) ?_; intro gz hg w4 hbox hb; have n_ := a_ (bs_ HB hb) (Aside0.mk hbox); clear HB hbox hb hg; obtain ⟨HB, BZ⟩ := n_; have hz0 : w4.cell? ⟨gz, 0, none⟩ = some (.int .i64 5) := (blk_cell BZ.out 0).trans rfl; have hz1 : w4.cell? ⟨gz, 1, none⟩ = some (.int .i64 a0_1) := (blk_cell BZ.out 1).trans rfl; have hz2 : w4.cell? ⟨gz, 2, none⟩ = some (.int .i64 a0_2) := (blk_cell BZ.out 2).trans rfl; have hz3 : w4.cell? ⟨gz, 3, none⟩ = some (.int .i64 a0_3) := (blk_cell BZ.out 3).trans rfl; have hz4 : w4.cell? ⟨gz, 4, none⟩ = some (.int .i64 a0_4) := (blk_cell BZ.out 4).trans rfl) | ((with_reducible refine gate_callee (f := 35) rfl ?_); (try (refine gate_guard (by rfl) ?_; dsimp only)); refine goesL_ (some 6) rfl rfl Try.func35 (by kernel_rfl) rfl #[.int .i64 a1, .int .i64 8] rfl MP_ ?_; (with_reducible refine (prog_some.calls a1 8 true _ HS.out).mono ?_); rintro e w5 ⟨rfl, hd⟩; refine ⟨_, rfl, ?_⟩; have hb : Below w4.heap.size w4 w5 := (by obtain ⟨nd, rfl⟩ := hd; exact pw_below_drewN (Below.refl _ _) nd); (try clear hz0 hz1 hz2 hz3 hz4); have n_ := a_ (bs_ HB hb) (bb_ BZ hb); clear HB BZ hb hd; obtain ⟨HB, BZ⟩ := n_; have hz0 : w5.cell? ⟨gz, 0, none⟩ = some (.int .i64 5) := (blk_cell BZ.out 0).trans rfl; have hz1 : w5.cell? ⟨gz, 1, none⟩ = some (.int .i64 a0_1) := (blk_cell BZ.out 1).trans rfl; have hz2 : w5.cell? ⟨gz, 2, none⟩ = some (.int .i64 a0_2) := (blk_cell BZ.out 2).trans rfl; have hz3 : w5.cell? ⟨gz, 3, none⟩ = some (.int .i64 a0_3) := (blk_cell BZ.out 3).trans rfl; have hz4 : w5.cell? ⟨gz, 4, none⟩ = some (.int .i64 a0_4) := (blk_cell BZ.out 4).trans rfl) | ((with_reducible refine gate_callee (f := 39) rfl ?_); (try (refine gate_guard (by rfl) ?_; dsimp only)); refine goesL_ (some 11) rfl rfl Try.func39 (by kernel_rfl) rfl #[.int .i64 5, .int .i64 5] rfl MP_ ?_; (with_reducible refine (prog_one.calls 5 5 true _ HO.out).mono ?_); rintro e w6 ⟨rfl, hd⟩; refine ⟨_, rfl, ?_⟩; have hb : Below w5.heap.size w5 w6 := (by obtain ⟨nd, rfl⟩ := hd; exact pw_below_drewN (Below.refl _ _) nd); (try clear hz0 hz1 hz2 hz3 hz4); have n_ := a_ (bs_ HB hb) (bb_ BZ hb); clear HB BZ hb hd; obtain ⟨HB, BZ⟩ := n_; have hz0 : w6.cell? ⟨gz, 0, none⟩ = some (.int .i64 5) := (blk_cell BZ.out 0).trans rfl; have hz1 : w6.cell? ⟨gz, 1, none⟩ = some (.int .i64 a0_1) := (blk_cell BZ.out 1).trans rfl; have hz2 : w6.cell? ⟨gz, 2, none⟩ = some (.int .i64 a0_2) := (blk_cell BZ.out 2).trans rfl; have hz3 : w6.cell? ⟨gz, 3, none⟩ = some (.int .i64 a0_3) := (blk_cell BZ.out 3).trans rfl; have hz4 : w6.cell? ⟨gz, 4, none⟩ = some (.int .i64 a0_4) := (blk_cell BZ.out 4).trans rfl))
        clear hz0 hz1 hz2 hz3 hz4
        have n_ := a_ (Aside0.mk HB.out.drew) (Aside0.mk (blk_drew BZ.out))
        clear HB BZ
        obtain ⟨HB, BZ⟩ := n_
        refine start_ (n := 8) (S := fun w' => w'.cell? ⟨gz, 0, none⟩ = some (.int .i64 5) ∧ w'.cell? ⟨gz, 1, none⟩ = some (.int .i64 a0_1) ∧ w'.cell? ⟨gz, 2, none⟩ = some (.int .i64 a0_2) ∧ w'.cell? ⟨gz, 3, none⟩ = some (.int .i64 a0_3) ∧ w'.cell? ⟨gz, 4, none⟩ = some (.int .i64 a0_4)) (ds := []) #[false, false, false, false, false, false, false, false] (by kernel_rfl) rfl rfl ⟨(blk_cell BZ.out 0).trans rfl, (blk_cell BZ.out 1).trans rfl, (blk_cell BZ.out 2).trans rfl, (blk_cell BZ.out 3).trans rfl, (blk_cell BZ.out 4).trans rfl⟩ (fun hHeld => ?_); refine with_tabW prog_Right.tab3 prog_Right.bits3 (fun HT_ HW_ => ?_)
        generalize hwd_ : w6.drew = wd at HB BZ hHeld ⊢
        clear hwd_
        refine pu_ 1 (some 15) ?_
        refine pu_ 5 (some 19) ?_
        refine take_ (i := 2) (N := some 16) (v := ?_) (a' := ?_) #[false, true, true, false, false, true, false, false] rfl rfl (take_ofW HT_.out HW_.out (by kernel_rfl)) (fun _ _ _ h => h) (Or.inl ⟨by rfl, ?_⟩) hHeld ?_ ?_
        rotate_left
        · rintro w' ⟨s0, s1, s2, s3, s4⟩
          go_simp
          with_reducible rfl
        rotate_left
        · exact AP_
        refine take_ (i := 4) (N := some 18) (v := ?_) (a' := ?_) #[false, true, true, false, true, true, false, false] rfl rfl (take_ofW HT_.out HW_.out (by kernel_rfl)) (fun _ _ _ h => h) (Or.inl ⟨by rfl, ?_⟩) hHeld ?_ ?_
        rotate_left
        · rintro w' ⟨s0, s1, s2, s3, s4⟩
          go_simp
          with_reducible rfl
        rotate_left
        · exact AP_
        refine on_ 0 (some 14) (fun K hK => ?_)
        refine goes_ Try.func54 (by kernel_rfl) rfl #[] (by rfl) rfl rfl MP_ ?_
        with_reducible refine (prog_kinds.calls _).mono ?_
        rintro e_ w7 ⟨rfl, hb⟩
        refine ⟨_, rfl, ?_⟩
        have n_ := a_ (bs_ HB hb) (bb_ BZ hb)
        clear HB BZ hb
        obtain ⟨HB, BZ⟩ := n_
        refine hK.out _ _ ⟨(blk_cell BZ.out 0).trans rfl, (blk_cell BZ.out 1).trans rfl, (blk_cell BZ.out 2).trans rfl, (blk_cell BZ.out 3).trans rfl, (blk_cell BZ.out 4).trans rfl⟩ (fun hHeld => ?_)
        clear hK K
        refine nm_ ?_
        have hix := prog_Right.ix5
        unfold prog_kinds.V at hix ⊢
        refine pu_ 3 (some 17) ?_
        clear hix
        refine on_ 6 (some 20) (fun K hK => ?_)
        refine goesT_ Try.func78 (by kernel_rfl) rfl #[.agg #[.int .i64 5, .int .i64 a0_1, .int .i64 a0_2, .int .i64 a0_3, .int .i64 a0_4], .int .i64 a1] (by rfl) rfl rfl rfl MP_ ?_
        with_reducible refine (prog_kinds_1.calls _ _ _ _ _ _ r _ HF.out).mono ?_
        rintro e_ w8 ⟨rfl, hb⟩
        refine ⟨_, rfl, ?_⟩
        have n_ := a_ (bs_ HB hb) (bb_ BZ hb)
        clear HB BZ hb
        obtain ⟨HB, BZ⟩ := n_
        refine hK.out _ _ ⟨(blk_cell BZ.out 0).trans rfl, (blk_cell BZ.out 1).trans rfl, (blk_cell BZ.out 2).trans rfl, (blk_cell BZ.out 3).trans rfl, (blk_cell BZ.out 4).trans rfl⟩ (fun hHeld => ?_)
        clear hK K
        refine nm_ ?_
        refine pu_ 7 (some 4) ?_
        refine done_ (done_of HT_.out (by kernel_rfl)) ?_
        go_wp2
        go_ret
        exact ⟨rfl, HB.out⟩
      rw [if_neg c5] at h
      cases h
end Go.Proofs.Ytpcpbeklaibdfaa.C

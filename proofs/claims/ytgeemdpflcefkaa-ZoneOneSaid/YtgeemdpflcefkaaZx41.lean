-- WRITTEN BY this session's program wip/ext.py, in print.py's manner
import Derived.Test.YtgeemdpflcefkaaZx0
import Derived.Test.YtgeemdpflcefkaaZx1
import Derived.Test.YtgeemdpflcefkaaZx3
import Derived.Test.YtgeemdpflcefkaaZx15
import Derived.Test.YtgeemdpflcefkaaZx16
import Derived.Test.YtgeemdpflcefkaaZx17
import Derived.Test.YtgeemdpflcefkaaZx19
import Derived.Test.YtgeemdpflcefkaaZx33
import Derived.Test.YtgeemdpflcefkaaZx35
import Derived.Test.YtgeemdpflcefkaaZx39
namespace Go.Proofs.Ytgeemdpflcefkaa.Z
open Go.RowKit Go.Proofs.YtgeemdpflcefkaaW.PrintWords Go.Proofs.YtgeemdpflcefkaaW.PrintLast Go.Proofs.YtgeemdpflcefkaaW.PrintMore
attribute [local go_sem] max2_int min2_int max_two min_two max_three min_three max_four min_four   -- for this text's walks alone
set_option linter.unusedVariables false
set_option linter.unusedSimpArgs false

attribute [local go_sem high] eqA39
/-! ### warrantorlaw09_ZoneOne_v0: function 4 -/
def warrantorlaw09_ZoneOne_v0.f (k : Nat) (a0_0 : Int) (l0_1 : List Int) (a1 : Int) (a2 : Int) (a3 : Int) : Option (Bool) := (warrantorref08_Large.f l0_1).bind fun t564 => (if t564 = true then ((warrantorlaw09_lives.f k).bind fun t565 => (some t565)) else ((zone_Limit.f k a0_0 l0_1 a1 a2 a3).bind fun bt566 => ((zone_Forget.f k a0_0 l0_1 a1).bind fun bt572 => ((zone_Let.f k a0_0 l0_1 a1 a2 a3).bind fun bt578 => ((zone_Itv.f k a0_0 l0_1 a1).bind fun bt584 => ((warrantorlaw09_lives.f k).bind fun t588 => (if t588 = true then ((warrantorref08_Check.f k a0_0 l0_1).bind fun t589 => (if t589 = true then ((warrantorref09_Var.f a0_0 l0_1 a1).bind fun t590 => ((warrantorref09_Or0.f a0_0 l0_1 a1).bind fun t591 => ((warrantorref09_Or0.f a0_0 l0_1 a2).bind fun t592 => (if t591 = true then (none) else (if ((bt566.2.2 == 0) != false) = true then (none) else (if ((bt572.2.2 == 0) != t590) = true then (none) else (if t590 = true then (none) else (if ((bt578.2.2 == 0) != false) = true then (none) else (if ((bt584.2.2 == 0) != t591) = true then (none) else (if bt566.2.2 = 1 then (if bt572.2.2 = 1 then (if bt578.2.2 = 1 then (some (bt584.2.2 == 1)) else (none)) else (none)) else (none))))))))))) else (if bt566.2.2 = 80 then (if bt572.2.2 = 80 then (if bt578.2.2 = 80 then (if bt584.2.2 = 80 then (if (wrap64 ((wrap64 ((bt566.2.1.length : Int) + (bt572.2.1.length : Int))) + (bt578.2.1.length : Int))) = 0 then (some (bt584.1 == 0 && (bt584.2.1 == 0))) else (none)) else (none)) else (none)) else (none)) else (none)))) else (none))))))))
theorem warrantorlaw09_ZoneOne_v0.mono : ∀ a0 a1 a2 a3 a4 k, LeO (warrantorlaw09_ZoneOne_v0.f k a0 a1 a2 a3 a4) (warrantorlaw09_ZoneOne_v0.f (k + 1) a0 a1 a2 a3 a4) := by
  intro a0 a1 a2 a3 a4 k
  unfold warrantorlaw09_ZoneOne_v0.f
  repeat' first
      | (with_reducible exact warrantorlaw09_lives.mono _)
      | (with_reducible exact warrantorref08_Check.mono _ _ _)
      | (with_reducible exact zone_Forget.mono _ _ _ _)
      | (with_reducible exact zone_Itv.mono _ _ _ _)
      | (with_reducible exact zone_Let.mono _ _ _ _ _ _)
      | (with_reducible exact zone_Limit.mono _ _ _ _ _ _)
      | (with_reducible exact LeO.refl _)
      | (with_reducible exact LeO.none _)
      | (with_reducible refine LeO.ite ?_ ?_)
      | (with_reducible refine LeO.bind ?_ (fun _ => ?_))
      | exact warrantorlaw09_lives.mono _
      | exact warrantorref08_Check.mono _ _ _
      | exact zone_Forget.mono _ _ _ _
      | exact zone_Itv.mono _ _ _ _
      | exact zone_Let.mono _ _ _ _ _ _
      | exact zone_Limit.mono _ _ _ _ _ _
      | exact LeO.none _
      | refine LeO.ite ?_ ?_
      | refine LeO.bind ?_ (fun _ => ?_)
def warrantorlaw09_ZoneOne_v0.T11 : Bool × List (List Nat × List Nat) := (true, [([], []), ([], []), ([0, 1], [0, 1]), ([], []), ([], []), ([3, 4, 2], [3, 4]), ([], []), ([], []), ([6, 7, 5], [6, 7]), ([2, 8, 0, 1, 2], [2]), ([5, 9, 0, 1, 2, 3, 4, 5, 9], [5]), ([8, 10, 0, 1, 2, 3, 4, 5, 6, 7, 8, 9, 10], [8])])
def warrantorlaw09_ZoneOne_v0.B11 : List Nat := [0, 0, 3, 0, 0, 31, 0, 0, 255, 511, 1023, 2047]
theorem warrantorlaw09_ZoneOne_v0.tab11 : rtab .any (opsOf Try.f4 11) = warrantorlaw09_ZoneOne_v0.T11 := by kernel_rfl
theorem warrantorlaw09_ZoneOne_v0.bits11 : waitsOk warrantorlaw09_ZoneOne_v0.T11.2 warrantorlaw09_ZoneOne_v0.B11 = true := by kernel_rfl
set_option maxHeartbeats 8000000 in
set_option maxRecDepth 100000 in
theorem warrantorlaw09_ZoneOne_v0.calls (k : Nat) (a0_0 : Int) (A0_1 : Option Addr) (c0_1 : Nat) (l0_1 : List Int) (a1 : Int) (a2 : Int) (a3 : Int) (r : Bool) (w : World) (hr0_1 : Kd.C (Kd.int .i64) w A0_1 l0_1.length l0_1) (hc0_1 : l0_1.length ≤ c0_1) (h : warrantorlaw09_ZoneOne_v0.f k a0_0 l0_1 a1 a2 a3 = some r) :
    Calls Try.prog 4 #[.agg #[.int .i64 a0_0, .slice A0_1 l0_1.length c0_1], .int .i64 a1, .int .i64 a2, .int .i64 a3] w fun e w' => e = .returned (.bool r) ∧ Below w.heap.size w w' := by
  have hu24 := Try.underlying24
  have hu39 := Try.underlying39
  have HR0_1 := Aside0.mk hr0_1
  have HC0_1 := Aside0.mk hc0_1
  clear hr0_1 hc0_1
  have HB := Aside0.mk (Below.refl w.heap.size w)
  have H : ((warrantorref08_Large.f l0_1).bind fun t564 => (if t564 = true then ((warrantorlaw09_lives.f k).bind fun t565 => (some t565)) else ((zone_Limit.f k a0_0 l0_1 a1 a2 a3).bind fun bt566 => ((zone_Forget.f k a0_0 l0_1 a1).bind fun bt572 => ((zone_Let.f k a0_0 l0_1 a1 a2 a3).bind fun bt578 => ((zone_Itv.f k a0_0 l0_1 a1).bind fun bt584 => ((warrantorlaw09_lives.f k).bind fun t588 => (if t588 = true then ((warrantorref08_Check.f k a0_0 l0_1).bind fun t589 => (if t589 = true then ((warrantorref09_Var.f a0_0 l0_1 a1).bind fun t590 => ((warrantorref09_Or0.f a0_0 l0_1 a1).bind fun t591 => ((warrantorref09_Or0.f a0_0 l0_1 a2).bind fun t592 => (if t591 = true then (none) else (if ((bt566.2.2 == 0) != false) = true then (none) else (if ((bt572.2.2 == 0) != t590) = true then (none) else (if t590 = true then (none) else (if ((bt578.2.2 == 0) != false) = true then (none) else (if ((bt584.2.2 == 0) != t591) = true then (none) else (if bt566.2.2 = 1 then (if bt572.2.2 = 1 then (if bt578.2.2 = 1 then (some (bt584.2.2 == 1)) else (none)) else (none)) else (none))))))))))) else (if bt566.2.2 = 80 then (if bt572.2.2 = 80 then (if bt578.2.2 = 80 then (if bt584.2.2 = 80 then (if (wrap64 ((wrap64 ((bt566.2.1.length : Int) + (bt572.2.1.length : Int))) + (bt578.2.1.length : Int))) = 0 then (some (bt584.1 == 0 && (bt584.2.1 == 0))) else (none)) else (none)) else (none)) else (none)) else (none)))) else (none))))))))) = some r := h
  clear h
  replace H := bd_ H
  obtain ⟨t564, A5, H⟩ := H
  (try dsimp only at H)
  by_cases c6 : t564 = true
  · subst c6
    replace H := ps1_ H
    replace H := bd_ H
    obtain ⟨t565, A7, H⟩ := H
    (try dsimp only at H)
    obtain rfl := Option.some.inj H
    go_enter Try.func4, Try.ntmps4
    go_wp2_with (first | ((with_reducible refine gate_dst (N := 4) rfl ?_); (try (refine gate_guard (by rfl) ?_; dsimp only)); refine bx_ (N := 4) (cs := #[.int .i64 a0_0, .slice A0_1 l0_1.length c0_1]) (t := 24) ?_; intro gb563 hg w8 hbox hb; have n_ := a_ (bs_ HB hb) (a_ (Aside0.mk hbox) (a_ (gs_ HB hg) (gs_ HB hg))); clear HB; obtain ⟨HB, BK563, GW563, GE563⟩ := n_; clear hb hbox hg; obtain ⟨hcz9_0, hcz9_1, hfz9_0, hfz9_1⟩ := cz2_ BK563) | ((with_reducible refine gate_callee (f := 12) rfl ?_); refine goesL_ (some 22) rfl rfl Try.func12 (by kernel_rfl) rfl #[.slice A0_1 l0_1.length c0_1] rfl MP_ ?_; (with_reducible refine (warrantorref08_Large.calls _ _ l0_1 true _ ?side1 ?side2 A5.out).mono ?_); (case side1 => exact sd_ (Kd.C_below HR0_1.out HB.out)); (case side2 => exact HC0_1.out); rintro e w' ⟨rfl, ⟨nd, rfl⟩⟩; refine ⟨_, rfl, ?_⟩) | ((with_reducible refine gate_callee (f := 22) rfl ?_); refine goesL_ (some 23) rfl rfl Try.func22 (by kernel_rfl) rfl #[] rfl MP_ ?_; (with_reducible refine (warrantorlaw09_lives.calls k  t565 _ A7.out).mono ?_); rintro e w10 ⟨rfl, hb⟩; refine ⟨_, rfl, ?_⟩; have n_ := a_ (bb_ BK563 hb) (bs_ HB hb); clear BK563 HB; obtain ⟨BK563, HB⟩ := n_; (try clear hb); (try clear hb2); (try clear hk); (try clear hi)))
    go_ret
    exact ⟨by first | rfl | (simp [errW_none, errW_some] <;> rfl) | (simp [*, errW_none, errW_some] <;> rfl), HB_⟩
  replace c6 := Bool.eq_false_iff.mpr c6
  subst c6
  replace H := ng1_ H
  replace H := bd_ H
  obtain ⟨⟨t566, t567, t570⟩, A11, H⟩ := H
  (try dsimp only at H)
  replace H := bd_ H
  obtain ⟨⟨t572, t573, t576⟩, A12, H⟩ := H
  (try dsimp only at H)
  replace H := bd_ H
  obtain ⟨⟨t578, t579, t582⟩, A13, H⟩ := H
  (try dsimp only at H)
  replace H := bd_ H
  obtain ⟨⟨t584, t585, t586⟩, A14, H⟩ := H
  (try dsimp only at H)
  replace H := bd_ H
  obtain ⟨t588, A15, H⟩ := H
  (try dsimp only at H)
  replace H := yes_ H
  obtain ⟨c16, H⟩ := H
  subst c16
  replace H := bd_ H
  obtain ⟨t589, A17, H⟩ := H
  (try dsimp only at H)
  by_cases c18 : t589 = true
  rotate_left
  · replace c18 := Bool.eq_false_iff.mpr c18
    subst c18
    replace H := ng1_ H
    replace H := yes_ H
    obtain ⟨c68, H⟩ := H
    have c68b0 : (t570 == 80) = true := beq_iff_eq.mpr c68
    have c68b1 : (t570 != 80) = false := bne_eq_false_iff_eq.mpr c68
    clear c68
    replace H := yes_ H
    obtain ⟨c69, H⟩ := H
    have c69b0 : (t576 == 80) = true := beq_iff_eq.mpr c69
    have c69b1 : (t576 != 80) = false := bne_eq_false_iff_eq.mpr c69
    clear c69
    replace H := yes_ H
    obtain ⟨c70, H⟩ := H
    have c70b0 : (t582 == 80) = true := beq_iff_eq.mpr c70
    have c70b1 : (t582 != 80) = false := bne_eq_false_iff_eq.mpr c70
    clear c70
    replace H := yes_ H
    obtain ⟨c71, H⟩ := H
    have c71b0 : (t586 == 80) = true := beq_iff_eq.mpr c71
    have c71b1 : (t586 != 80) = false := bne_eq_false_iff_eq.mpr c71
    clear c71
    replace H := yes_ H
    obtain ⟨c72, H⟩ := H
    have c72b0 : ((wrap64 ((wrap64 ((t567.length : Int) + (t573.length : Int))) + (t579.length : Int))) == 0) = true := beq_iff_eq.mpr c72
    have c72b0v : ((IntKind.i64.wrap ((IntKind.i64.wrap ((t567.length : Int) + (t573.length : Int))) + (t579.length : Int))) == 0) = true := by (try simp only [i64_w]); exact c72b0
    have c72b1 : ((wrap64 ((wrap64 ((t567.length : Int) + (t573.length : Int))) + (t579.length : Int))) != 0) = false := bne_eq_false_iff_eq.mpr c72
    have c72b1v : ((IntKind.i64.wrap ((IntKind.i64.wrap ((t567.length : Int) + (t573.length : Int))) + (t579.length : Int))) != 0) = false := by (try simp only [i64_w]); exact c72b1
    clear c72
    obtain rfl := Option.some.inj H
    go_enter Try.func4, Try.ntmps4
    go_wp2_with (first | ((with_reducible refine gate_dst (N := 4) rfl ?_); (try (refine gate_guard (by rfl) ?_; dsimp only)); refine bx_ (N := 4) (cs := #[.int .i64 a0_0, .slice A0_1 l0_1.length c0_1]) (t := 24) ?_; intro gb563 hg w73 hbox hb; have n_ := a_ (bs_ HB hb) (a_ (Aside0.mk hbox) (a_ (gs_ HB hg) (gs_ HB hg))); clear HB; obtain ⟨HB, BK563, GW563, GE563⟩ := n_; clear hb hbox hg; obtain ⟨hcz74_0, hcz74_1, hfz74_0, hfz74_1⟩ := cz2_ BK563) | ((with_reducible refine gate_callee (f := 12) rfl ?_); refine goesL_ (some 22) rfl rfl Try.func12 (by kernel_rfl) rfl #[.slice A0_1 l0_1.length c0_1] rfl MP_ ?_; (with_reducible refine (warrantorref08_Large.calls _ _ l0_1 false _ ?side1 ?side2 A5.out).mono ?_); (case side1 => exact sd_ (Kd.C_below HR0_1.out HB.out)); (case side2 => exact HC0_1.out); rintro e w' ⟨rfl, ⟨nd, rfl⟩⟩; refine ⟨_, rfl, ?_⟩; (try (rw [drewN_self w73]; generalize hq_ : World.drewN w73 _ = w73; have n0_ : Aside0 (w73.heap[gb563]? = some (.cells #[.int .i64 a0_0, .slice A0_1 l0_1.length c0_1] 24 (0, 0))) := ⟨by rw [← hq_]; exact (bk_ BK563.out)⟩; have n1_ : Aside0 (Below w.heap.size w w73) := ⟨by rw [← hq_]; exact HB_⟩; clear BK563 HB hq_; have BK563 := n0_; have HB := n1_; clear n0_ n1_; (try (obtain ⟨hczu_gb563_0, hczu_gb563_1, hfzu_gb563_0, hfzu_gb563_1⟩ := cz2_ BK563))))) | ((with_reducible refine gate_callee (f := 23) rfl ?_); refine goesL_ (some 29) rfl rfl Try.func23 (by kernel_rfl) rfl #[.agg #[.int .i64 a0_0, .slice A0_1 l0_1.length c0_1], .int .i64 a1, .int .i64 a2, .int .i64 a3] rfl MP_ ?_; (with_reducible refine (zone_Limit.calls k a0_0 _ _ l0_1 a1 a2 a3 t566 t567 t570 _ ?side1 ?side2 A11.out).mono ?_); (case side1 => exact sd_ (Kd.C_below HR0_1.out HB.out)); (case side2 => exact HC0_1.out); rintro e w75 ⟨v568, rfl, ho0, hb⟩; refine ⟨_, rfl, ?_⟩; have n_ := a_ (Aside0.mk (Kd.R_lower ho0 (below_size HB_))) (a_ (bb_ BK563 hb) (bs_ HB hb)); clear BK563 HB; obtain ⟨HO569, BK563, HB⟩ := n_; (try clear hb); (try clear hb2); (try clear hk); (try clear hi); (try clear ho0)) | ((with_reducible refine gate_dst (N := 9) rfl ?_); (try (refine gate_guard (by rfl) ?_; dsimp only)); refine bx_ (N := 9) (cs := #[.int .i64 0, .slice none 0 0]) (t := 24) ?_; intro gb571 hg w76 hbox hb; have n_ := a_ (rb_ HO569 hb) (a_ (bb_ BK563 hb) (a_ (bs_ HB hb) (a_ (Aside0.mk hbox) (a_ (gs_ HB hg) (a_ (gs_ HB hg) (a_ (nl_ BK563 hg) (ng_ BK563 hg))))))); clear HO569 BK563 HB; obtain ⟨HO569, BK563, HB, BK571, GW571, GE571, NB563_571, NB571_563⟩ := n_; clear hb hbox hg; have hnb77 := NB571_563.out; have hnc77 := NB563_571.out; obtain ⟨hcz78_0, hcz78_1, hfz78_0, hfz78_1⟩ := cz2_ BK571; obtain ⟨Ao79, co79, eo79⟩ := Kd.R_slice HO569.out; subst eo79; obtain ⟨hcz80_0, hcz80_1, hfz80_0, hfz80_1⟩ := cz2_ BK563) | ((with_reducible refine gate_callee (f := 24) rfl ?_); refine goesL_ (some 35) rfl rfl Try.func24 (by kernel_rfl) rfl #[.agg #[.int .i64 a0_0, .slice A0_1 l0_1.length c0_1], .int .i64 a1] rfl MP_ ?_; (with_reducible refine (zone_Forget.calls k a0_0 _ _ l0_1 a1 t572 t573 t576 _ ?side1 ?side2 A12.out).mono ?_); (case side1 => exact Kd.C_below HR0_1.out HB_); (case side2 => exact HC0_1.out); rintro e w81 ⟨v574, rfl, ho0, hb⟩; refine ⟨_, rfl, ?_⟩; have n_ := a_ (Aside0.mk (Kd.R_elder' (rd_ (rf2_ HO569 BK571 (.int .i64 t566) (.slice Ao79 t567.length co79))) (Kd.R_base ho0) hb)) (a_ (Aside0.mk (Kd.R_lower (Kd.R_new' ho0 (Kd.R_lt (rd_ (rf2_ HO569 BK571 (.int .i64 t566) (.slice Ao79 t567.length co79))))) (below_size HB_))) (a_ (bc_ #[.int .i64 a0_0, .slice A0_1 l0_1.length c0_1] 24 BK563 hb) (a_ (bc_ #[.int .i64 t566, .slice Ao79 t567.length co79] 24 BK571 hb) (bs_ HB hb)))); clear HO569 BK563 BK571 HB; obtain ⟨HO569, HO575, BK563, BK571, HB⟩ := n_; (try clear hb); (try clear hb2); (try clear hk); (try clear hi); (try clear ho0)) | ((with_reducible refine gate_dst (N := 11) rfl ?_); (try (refine gate_guard (by rfl) ?_; dsimp only)); refine bx_ (N := 11) (cs := #[.int .i64 0, .slice none 0 0]) (t := 24) ?_; intro gb577 hg w82 hbox hb; have n_ := a_ (rb_ HO569 hb) (a_ (rb_ HO575 hb) (a_ (bb_ BK563 hb) (a_ (bb_ BK571 hb) (a_ (bs_ HB hb) (a_ (Aside0.mk hbox) (a_ (gs_ HB hg) (a_ (gs_ HB hg) (a_ (nl_ BK563 hg) (a_ (ng_ BK563 hg) (a_ (nl_ BK571 hg) (ng_ BK571 hg))))))))))); clear HO569 HO575 BK563 BK571 HB; obtain ⟨HO569, HO575, BK563, BK571, HB, BK577, GW577, GE577, NB563_577, NB577_563, NB571_577, NB577_571⟩ := n_; clear hb hbox hg; have hnb83 := NB577_563.out; have hnc83 := NB563_577.out; have hnb84 := NB577_571.out; have hnc84 := NB571_577.out; obtain ⟨hcz85_0, hcz85_1, hfz85_0, hfz85_1⟩ := cz2_ BK577; obtain ⟨Ao86, co86, eo86⟩ := Kd.R_slice HO575.out; subst eo86; obtain ⟨hcz87_0, hcz87_1, hfz87_0, hfz87_1⟩ := cz2_ BK563) | ((with_reducible refine gate_callee (f := 25) rfl ?_); refine goesL_ (some 43) rfl rfl Try.func25 (by kernel_rfl) rfl #[.agg #[.int .i64 a0_0, .slice A0_1 l0_1.length c0_1], .int .i64 a1, .int .i64 a2, .int .i64 a3] rfl MP_ ?_; (with_reducible refine (zone_Let.calls k a0_0 _ _ l0_1 a1 a2 a3 t578 t579 t582 _ ?side1 ?side2 A13.out).mono ?_); (case side1 => exact Kd.C_below HR0_1.out HB_); (case side2 => exact HC0_1.out); rintro e w88 ⟨v580, rfl, ho0, hb⟩; refine ⟨_, rfl, ?_⟩; have n_ := a_ (Aside0.mk (Kd.R_elder' (rd_ (rf2_ HO569 BK577 (.int .i64 t572) (.slice Ao86 t573.length co86))) (Kd.R_base ho0) hb)) (a_ (Aside0.mk (Kd.R_elder' (rd_ (rf2_ HO575 BK577 (.int .i64 t572) (.slice Ao86 t573.length co86))) (Kd.R_base ho0) hb)) (a_ (Aside0.mk (Kd.R_lower (Kd.R_new' (Kd.R_new' ho0 (Kd.R_lt (rd_ (rf2_ HO569 BK577 (.int .i64 t572) (.slice Ao86 t573.length co86))))) (Kd.R_lt (rd_ (rf2_ HO575 BK577 (.int .i64 t572) (.slice Ao86 t573.length co86))))) (below_size HB_))) (a_ (bc_ #[.int .i64 a0_0, .slice A0_1 l0_1.length c0_1] 24 BK563 hb) (a_ (bc_ #[.int .i64 t566, .slice Ao79 t567.length co79] 24 BK571 hb) (a_ (bc_ #[.int .i64 t572, .slice Ao86 t573.length co86] 24 BK577 hb) (bs_ HB hb)))))); clear HO569 HO575 BK563 BK571 BK577 HB; obtain ⟨HO569, HO575, HO581, BK563, BK571, BK577, HB⟩ := n_; (try clear hb); (try clear hb2); (try clear hk); (try clear hi); (try clear ho0)) | ((with_reducible refine gate_dst (N := 13) rfl ?_); (try (refine gate_guard (by rfl) ?_; dsimp only)); refine bx_ (N := 13) (cs := #[.int .i64 0, .slice none 0 0]) (t := 24) ?_; intro gb583 hg w89 hbox hb; have n_ := a_ (rb_ HO569 hb) (a_ (rb_ HO575 hb) (a_ (rb_ HO581 hb) (a_ (bb_ BK563 hb) (a_ (bb_ BK571 hb) (a_ (bb_ BK577 hb) (a_ (bs_ HB hb) (a_ (Aside0.mk hbox) (a_ (gs_ HB hg) (a_ (gs_ HB hg) (a_ (nl_ BK563 hg) (a_ (ng_ BK563 hg) (a_ (nl_ BK571 hg) (a_ (ng_ BK571 hg) (a_ (nl_ BK577 hg) (ng_ BK577 hg))))))))))))))); clear HO569 HO575 HO581 BK563 BK571 BK577 HB; obtain ⟨HO569, HO575, HO581, BK563, BK571, BK577, HB, BK583, GW583, GE583, NB563_583, NB583_563, NB571_583, NB583_571, NB577_583, NB583_577⟩ := n_; clear hb hbox hg; have hnb90 := NB583_563.out; have hnc90 := NB563_583.out; have hnb91 := NB583_571.out; have hnc91 := NB571_583.out; have hnb92 := NB583_577.out; have hnc92 := NB577_583.out; obtain ⟨hcz93_0, hcz93_1, hfz93_0, hfz93_1⟩ := cz2_ BK583; obtain ⟨Ao94, co94, eo94⟩ := Kd.R_slice HO581.out; subst eo94; obtain ⟨hcz95_0, hcz95_1, hfz95_0, hfz95_1⟩ := cz2_ BK563) | ((with_reducible refine gate_callee (f := 26) rfl ?_); refine goesL_ (some 49) rfl rfl Try.func26 (by kernel_rfl) rfl #[.agg #[.int .i64 a0_0, .slice A0_1 l0_1.length c0_1], .int .i64 a1] rfl MP_ ?_; (with_reducible refine (zone_Itv.calls k a0_0 _ _ l0_1 a1 t584 t585 t586 _ ?side1 ?side2 A14.out).mono ?_); (case side1 => exact Kd.C_below HR0_1.out HB_); (case side2 => exact HC0_1.out); rintro e w96 ⟨rfl, hb⟩; refine ⟨_, rfl, ?_⟩; have n_ := a_ (Aside0.mk (Kd.R_below (rd_ (rf2_ HO569 BK583 (.int .i64 t578) (.slice Ao94 t579.length co94))) hb)) (a_ (Aside0.mk (Kd.R_below (rd_ (rf2_ HO575 BK583 (.int .i64 t578) (.slice Ao94 t579.length co94))) hb)) (a_ (Aside0.mk (Kd.R_below (rd_ (rf2_ HO581 BK583 (.int .i64 t578) (.slice Ao94 t579.length co94))) hb)) (a_ (bc_ #[.int .i64 a0_0, .slice A0_1 l0_1.length c0_1] 24 BK563 hb) (a_ (bc_ #[.int .i64 t566, .slice Ao79 t567.length co79] 24 BK571 hb) (a_ (bc_ #[.int .i64 t572, .slice Ao86 t573.length co86] 24 BK577 hb) (a_ (bc_ #[.int .i64 t578, .slice Ao94 t579.length co94] 24 BK583 hb) (bs_ HB hb))))))); clear HO569 HO575 HO581 BK563 BK571 BK577 BK583 HB; obtain ⟨HO569, HO575, HO581, BK563, BK571, BK577, BK583, HB⟩ := n_; (try clear hb); (try clear hb2); (try clear hk); (try clear hi)) | ((with_reducible refine gate_dst (N := 15) rfl ?_); (try (refine gate_guard (by rfl) ?_; dsimp only)); refine bx_ (N := 15) (cs := #[.int .i64 0, .int .i64 0]) (t := 39) ?_; intro gb587 hg w97 hbox hb; have n_ := a_ (rb_ HO569 hb) (a_ (rb_ HO575 hb) (a_ (rb_ HO581 hb) (a_ (bb_ BK563 hb) (a_ (bb_ BK571 hb) (a_ (bb_ BK577 hb) (a_ (bb_ BK583 hb) (a_ (bs_ HB hb) (a_ (Aside0.mk hbox) (a_ (gs_ HB hg) (a_ (gs_ HB hg) (a_ (nl_ BK563 hg) (a_ (ng_ BK563 hg) (a_ (nl_ BK571 hg) (a_ (ng_ BK571 hg) (a_ (nl_ BK577 hg) (a_ (ng_ BK577 hg) (a_ (nl_ BK583 hg) (ng_ BK583 hg)))))))))))))))))); clear HO569 HO575 HO581 BK563 BK571 BK577 BK583 HB; obtain ⟨HO569, HO575, HO581, BK563, BK571, BK577, BK583, HB, BK587, GW587, GE587, NB563_587, NB587_563, NB571_587, NB587_571, NB577_587, NB587_577, NB583_587, NB587_583⟩ := n_; clear hb hbox hg; have hnb98 := NB587_563.out; have hnc98 := NB563_587.out; have hnb99 := NB587_571.out; have hnc99 := NB571_587.out; have hnb100 := NB587_577.out; have hnc100 := NB577_587.out; have hnb101 := NB587_583.out; have hnc101 := NB583_587.out; obtain ⟨hcz102_0, hcz102_1, hfz102_0, hfz102_1⟩ := cz2_ BK587) | ((with_reducible refine gate_callee (f := 22) rfl ?_); refine goesL_ (some 52) rfl rfl Try.func22 (by kernel_rfl) rfl #[] rfl MP_ ?_; (with_reducible refine (warrantorlaw09_lives.calls k  true _ A15.out).mono ?_); rintro e w103 ⟨rfl, hb⟩; refine ⟨_, rfl, ?_⟩; have n_ := a_ (Aside0.mk (Kd.R_below (rd_ (rf2_ HO569 BK587 (.int .i64 t584) (.int .i64 t585))) hb)) (a_ (Aside0.mk (Kd.R_below (rd_ (rf2_ HO575 BK587 (.int .i64 t584) (.int .i64 t585))) hb)) (a_ (Aside0.mk (Kd.R_below (rd_ (rf2_ HO581 BK587 (.int .i64 t584) (.int .i64 t585))) hb)) (a_ (bc_ #[.int .i64 a0_0, .slice A0_1 l0_1.length c0_1] 24 BK563 hb) (a_ (bc_ #[.int .i64 t566, .slice Ao79 t567.length co79] 24 BK571 hb) (a_ (bc_ #[.int .i64 t572, .slice Ao86 t573.length co86] 24 BK577 hb) (a_ (bc_ #[.int .i64 t578, .slice Ao94 t579.length co94] 24 BK583 hb) (a_ (bc_ #[.int .i64 t584, .int .i64 t585] 39 BK587 hb) (bs_ HB hb)))))))); clear HO569 HO575 HO581 BK563 BK571 BK577 BK583 BK587 HB; obtain ⟨HO569, HO575, HO581, BK563, BK571, BK577, BK583, BK587, HB⟩ := n_; (try clear hb); (try clear hb2); (try clear hk); (try clear hi); obtain ⟨hcz104_0, hcz104_1, hfz104_0, hfz104_1⟩ := cz2_ BK563) | ((with_reducible refine gate_callee (f := 27) rfl ?_); refine goesL_ (some 55) rfl rfl Try.func27 (by kernel_rfl) rfl #[.agg #[.int .i64 a0_0, .slice A0_1 l0_1.length c0_1]] rfl MP_ ?_; (with_reducible refine (warrantorref08_Check.calls k a0_0 _ _ l0_1 false _ ?side1 ?side2 A17.out).mono ?_); (case side1 => exact sd_ (Kd.C_below HR0_1.out HB.out)); (case side2 => exact HC0_1.out); rintro e w105 ⟨rfl, hb⟩; refine ⟨_, rfl, ?_⟩; have n_ := a_ (rb_ HO569 hb) (a_ (rb_ HO575 hb) (a_ (rb_ HO581 hb) (a_ (bb_ BK563 hb) (a_ (bb_ BK571 hb) (a_ (bb_ BK577 hb) (a_ (bb_ BK583 hb) (a_ (bb_ BK587 hb) (bs_ HB hb)))))))); clear HO569 HO575 HO581 BK563 BK571 BK577 BK583 BK587 HB; obtain ⟨HO569, HO575, HO581, BK563, BK571, BK577, BK583, BK587, HB⟩ := n_; (try clear hb); (try clear hb2); (try clear hk); (try clear hi); obtain ⟨hcz106_0, hcz106_1, hfz106_0, hfz106_1⟩ := cz2_ BK571; obtain ⟨hcz107_0, hcz107_1, hfz107_0, hfz107_1⟩ := cz2_ BK577; obtain ⟨hcz108_0, hcz108_1, hfz108_0, hfz108_1⟩ := cz2_ BK583; obtain ⟨hcz109_0, hcz109_1, hfz109_0, hfz109_1⟩ := cz2_ BK587))
    go_ret
    exact ⟨by first | rfl | (simp [errW_none, errW_some] <;> rfl) | (simp [*, errW_none, errW_some] <;> rfl), HB_⟩
  subst c18
  replace H := ps1_ H
  replace H := bd_ H
  obtain ⟨t590, A19, H⟩ := H
  (try dsimp only at H)
  replace H := bd_ H
  obtain ⟨t591, A20, H⟩ := H
  (try dsimp only at H)
  replace H := bd_ H
  obtain ⟨t592, A21, H⟩ := H
  (try dsimp only at H)
  by_cases c22 : t591 = true
  · subst c22
    replace H := ps1_ H
    exact absurd H (by simp)
  replace c22 := Bool.eq_false_iff.mpr c22
  subst c22
  replace H := ng1_ H
  by_cases c23 : ((t570 == 0) != false) = true
  · rw [if_pos c23] at H
    exact absurd H (by simp)
  rw [if_neg c23] at H
  have c23b0 : ((t570 == 0) != false) = false := by simpa using c23
  (try (have c23b1 : decide ((t570 == 0) = false) = true := by simpa using c23))
  (try (have c23b2 : ((t570 == 0) == false) = true := by simpa using c23))
  clear c23
  by_cases c24 : ((t576 == 0) != t590) = true
  · rw [if_pos c24] at H
    exact absurd H (by simp)
  rw [if_neg c24] at H
  have c24b0 : ((t576 == 0) != t590) = false := by simpa using c24
  (try (have c24b1 : decide ((t576 == 0) = t590) = true := by simpa using c24))
  (try (have c24b2 : ((t576 == 0) == t590) = true := by simpa using c24))
  clear c24
  by_cases c25 : t590 = true
  · subst c25
    replace H := ps1_ H
    exact absurd H (by simp)
  replace c25 := Bool.eq_false_iff.mpr c25
  subst c25
  replace H := ng1_ H
  by_cases c26 : ((t582 == 0) != false) = true
  · rw [if_pos c26] at H
    exact absurd H (by simp)
  rw [if_neg c26] at H
  have c26b0 : ((t582 == 0) != false) = false := by simpa using c26
  (try (have c26b1 : decide ((t582 == 0) = false) = true := by simpa using c26))
  (try (have c26b2 : ((t582 == 0) == false) = true := by simpa using c26))
  clear c26
  by_cases c27 : ((t586 == 0) != false) = true
  · rw [if_pos c27] at H
    exact absurd H (by simp)
  rw [if_neg c27] at H
  have c27b0 : ((t586 == 0) != false) = false := by simpa using c27
  (try (have c27b1 : decide ((t586 == 0) = false) = true := by simpa using c27))
  (try (have c27b2 : ((t586 == 0) == false) = true := by simpa using c27))
  clear c27
  replace H := yes_ H
  obtain ⟨c28, H⟩ := H
  have c28b0 : (t570 == 1) = true := beq_iff_eq.mpr c28
  have c28b1 : (t570 != 1) = false := bne_eq_false_iff_eq.mpr c28
  clear c28
  replace H := yes_ H
  obtain ⟨c29, H⟩ := H
  have c29b0 : (t576 == 1) = true := beq_iff_eq.mpr c29
  have c29b1 : (t576 != 1) = false := bne_eq_false_iff_eq.mpr c29
  clear c29
  replace H := yes_ H
  obtain ⟨c30, H⟩ := H
  have c30b0 : (t582 == 1) = true := beq_iff_eq.mpr c30
  have c30b1 : (t582 != 1) = false := bne_eq_false_iff_eq.mpr c30
  clear c30
  obtain rfl := Option.some.inj H
  go_enter Try.func4, Try.ntmps4
  try go_wp2_with (first | ((with_reducible refine gate_dst (N := 4) rfl ?_); (try (refine gate_guard (by rfl) ?_; dsimp only)); refine bx_ (N := 4) (cs := #[.int .i64 a0_0, .slice A0_1 l0_1.length c0_1]) (t := 24) ?_; intro gb563 hg w31 hbox hb; have n_ := a_ (bs_ HB hb) (a_ (Aside0.mk hbox) (a_ (gs_ HB hg) (gs_ HB hg))); clear HB; obtain ⟨HB, BK563, GW563, GE563⟩ := n_; clear hb hbox hg; obtain ⟨hcz32_0, hcz32_1, hfz32_0, hfz32_1⟩ := cz2_ BK563) | ((with_reducible refine gate_callee (f := 12) rfl ?_); refine goesL_ (some 22) rfl rfl Try.func12 (by kernel_rfl) rfl #[.slice A0_1 l0_1.length c0_1] rfl MP_ ?_; (with_reducible refine (warrantorref08_Large.calls _ _ l0_1 false _ ?side1 ?side2 A5.out).mono ?_); (case side1 => exact sd_ (Kd.C_below HR0_1.out HB.out)); (case side2 => exact HC0_1.out); rintro e w' ⟨rfl, ⟨nd, rfl⟩⟩; refine ⟨_, rfl, ?_⟩; (try (rw [drewN_self w31]; generalize hq_ : World.drewN w31 _ = w31; have n0_ : Aside0 (w31.heap[gb563]? = some (.cells #[.int .i64 a0_0, .slice A0_1 l0_1.length c0_1] 24 (0, 0))) := ⟨by rw [← hq_]; exact (bk_ BK563.out)⟩; have n1_ : Aside0 (Below w.heap.size w w31) := ⟨by rw [← hq_]; exact HB_⟩; clear BK563 HB hq_; have BK563 := n0_; have HB := n1_; clear n0_ n1_; (try (obtain ⟨hczu_gb563_0, hczu_gb563_1, hfzu_gb563_0, hfzu_gb563_1⟩ := cz2_ BK563))))) | ((with_reducible refine gate_callee (f := 23) rfl ?_); refine goesL_ (some 29) rfl rfl Try.func23 (by kernel_rfl) rfl #[.agg #[.int .i64 a0_0, .slice A0_1 l0_1.length c0_1], .int .i64 a1, .int .i64 a2, .int .i64 a3] rfl MP_ ?_; (with_reducible refine (zone_Limit.calls k a0_0 _ _ l0_1 a1 a2 a3 t566 t567 t570 _ ?side1 ?side2 A11.out).mono ?_); (case side1 => exact sd_ (Kd.C_below HR0_1.out HB.out)); (case side2 => exact HC0_1.out); rintro e w33 ⟨v568, rfl, ho0, hb⟩; refine ⟨_, rfl, ?_⟩; have n_ := a_ (Aside0.mk (Kd.R_lower ho0 (below_size HB_))) (a_ (bb_ BK563 hb) (bs_ HB hb)); clear BK563 HB; obtain ⟨HO569, BK563, HB⟩ := n_; (try clear hb); (try clear hb2); (try clear hk); (try clear hi); (try clear ho0)) | ((with_reducible refine gate_dst (N := 9) rfl ?_); (try (refine gate_guard (by rfl) ?_; dsimp only)); refine bx_ (N := 9) (cs := #[.int .i64 0, .slice none 0 0]) (t := 24) ?_; intro gb571 hg w34 hbox hb; have n_ := a_ (rb_ HO569 hb) (a_ (bb_ BK563 hb) (a_ (bs_ HB hb) (a_ (Aside0.mk hbox) (a_ (gs_ HB hg) (a_ (gs_ HB hg) (a_ (nl_ BK563 hg) (ng_ BK563 hg))))))); clear HO569 BK563 HB; obtain ⟨HO569, BK563, HB, BK571, GW571, GE571, NB563_571, NB571_563⟩ := n_; clear hb hbox hg; have hnb35 := NB571_563.out; have hnc35 := NB563_571.out; obtain ⟨hcz36_0, hcz36_1, hfz36_0, hfz36_1⟩ := cz2_ BK571; obtain ⟨Ao37, co37, eo37⟩ := Kd.R_slice HO569.out; subst eo37; obtain ⟨hcz38_0, hcz38_1, hfz38_0, hfz38_1⟩ := cz2_ BK563) | ((with_reducible refine gate_callee (f := 24) rfl ?_); refine goesL_ (some 35) rfl rfl Try.func24 (by kernel_rfl) rfl #[.agg #[.int .i64 a0_0, .slice A0_1 l0_1.length c0_1], .int .i64 a1] rfl MP_ ?_; (with_reducible refine (zone_Forget.calls k a0_0 _ _ l0_1 a1 t572 t573 t576 _ ?side1 ?side2 A12.out).mono ?_); (case side1 => exact Kd.C_below HR0_1.out HB_); (case side2 => exact HC0_1.out); rintro e w39 ⟨v574, rfl, ho0, hb⟩; refine ⟨_, rfl, ?_⟩; have n_ := a_ (Aside0.mk (Kd.R_elder' (rd_ (rf2_ HO569 BK571 (.int .i64 t566) (.slice Ao37 t567.length co37))) (Kd.R_base ho0) hb)) (a_ (Aside0.mk (Kd.R_lower (Kd.R_new' ho0 (Kd.R_lt (rd_ (rf2_ HO569 BK571 (.int .i64 t566) (.slice Ao37 t567.length co37))))) (below_size HB_))) (a_ (bc_ #[.int .i64 a0_0, .slice A0_1 l0_1.length c0_1] 24 BK563 hb) (a_ (bc_ #[.int .i64 t566, .slice Ao37 t567.length co37] 24 BK571 hb) (bs_ HB hb)))); clear HO569 BK563 BK571 HB; obtain ⟨HO569, HO575, BK563, BK571, HB⟩ := n_; (try clear hb); (try clear hb2); (try clear hk); (try clear hi); (try clear ho0)) | ((with_reducible refine gate_dst (N := 11) rfl ?_); (try (refine gate_guard (by rfl) ?_; dsimp only)); refine bx_ (N := 11) (cs := #[.int .i64 0, .slice none 0 0]) (t := 24) ?_; intro gb577 hg w40 hbox hb; have n_ := a_ (rb_ HO569 hb) (a_ (rb_ HO575 hb) (a_ (bb_ BK563 hb) (a_ (bb_ BK571 hb) (a_ (bs_ HB hb) (a_ (Aside0.mk hbox) (a_ (gs_ HB hg) (a_ (gs_ HB hg) (a_ (nl_ BK563 hg) (a_ (ng_ BK563 hg) (a_ (nl_ BK571 hg) (ng_ BK571 hg))))))))))); clear HO569 HO575 BK563 BK571 HB; obtain ⟨HO569, HO575, BK563, BK571, HB, BK577, GW577, GE577, NB563_577, NB577_563, NB571_577, NB577_571⟩ := n_; clear hb hbox hg; have hnb41 := NB577_563.out; have hnc41 := NB563_577.out; have hnb42 := NB577_571.out; have hnc42 := NB571_577.out; obtain ⟨hcz43_0, hcz43_1, hfz43_0, hfz43_1⟩ := cz2_ BK577; obtain ⟨Ao44, co44, eo44⟩ := Kd.R_slice HO575.out; subst eo44; obtain ⟨hcz45_0, hcz45_1, hfz45_0, hfz45_1⟩ := cz2_ BK563) | ((with_reducible refine gate_callee (f := 25) rfl ?_); refine goesL_ (some 43) rfl rfl Try.func25 (by kernel_rfl) rfl #[.agg #[.int .i64 a0_0, .slice A0_1 l0_1.length c0_1], .int .i64 a1, .int .i64 a2, .int .i64 a3] rfl MP_ ?_; (with_reducible refine (zone_Let.calls k a0_0 _ _ l0_1 a1 a2 a3 t578 t579 t582 _ ?side1 ?side2 A13.out).mono ?_); (case side1 => exact Kd.C_below HR0_1.out HB_); (case side2 => exact HC0_1.out); rintro e w46 ⟨v580, rfl, ho0, hb⟩; refine ⟨_, rfl, ?_⟩; have n_ := a_ (Aside0.mk (Kd.R_elder' (rd_ (rf2_ HO569 BK577 (.int .i64 t572) (.slice Ao44 t573.length co44))) (Kd.R_base ho0) hb)) (a_ (Aside0.mk (Kd.R_elder' (rd_ (rf2_ HO575 BK577 (.int .i64 t572) (.slice Ao44 t573.length co44))) (Kd.R_base ho0) hb)) (a_ (Aside0.mk (Kd.R_lower (Kd.R_new' (Kd.R_new' ho0 (Kd.R_lt (rd_ (rf2_ HO569 BK577 (.int .i64 t572) (.slice Ao44 t573.length co44))))) (Kd.R_lt (rd_ (rf2_ HO575 BK577 (.int .i64 t572) (.slice Ao44 t573.length co44))))) (below_size HB_))) (a_ (bc_ #[.int .i64 a0_0, .slice A0_1 l0_1.length c0_1] 24 BK563 hb) (a_ (bc_ #[.int .i64 t566, .slice Ao37 t567.length co37] 24 BK571 hb) (a_ (bc_ #[.int .i64 t572, .slice Ao44 t573.length co44] 24 BK577 hb) (bs_ HB hb)))))); clear HO569 HO575 BK563 BK571 BK577 HB; obtain ⟨HO569, HO575, HO581, BK563, BK571, BK577, HB⟩ := n_; (try clear hb); (try clear hb2); (try clear hk); (try clear hi); (try clear ho0)) | ((with_reducible refine gate_dst (N := 13) rfl ?_); (try (refine gate_guard (by rfl) ?_; dsimp only)); refine bx_ (N := 13) (cs := #[.int .i64 0, .slice none 0 0]) (t := 24) ?_; intro gb583 hg w47 hbox hb; have n_ := a_ (rb_ HO569 hb) (a_ (rb_ HO575 hb) (a_ (rb_ HO581 hb) (a_ (bb_ BK563 hb) (a_ (bb_ BK571 hb) (a_ (bb_ BK577 hb) (a_ (bs_ HB hb) (a_ (Aside0.mk hbox) (a_ (gs_ HB hg) (a_ (gs_ HB hg) (a_ (nl_ BK563 hg) (a_ (ng_ BK563 hg) (a_ (nl_ BK571 hg) (a_ (ng_ BK571 hg) (a_ (nl_ BK577 hg) (ng_ BK577 hg))))))))))))))); clear HO569 HO575 HO581 BK563 BK571 BK577 HB; obtain ⟨HO569, HO575, HO581, BK563, BK571, BK577, HB, BK583, GW583, GE583, NB563_583, NB583_563, NB571_583, NB583_571, NB577_583, NB583_577⟩ := n_; clear hb hbox hg; have hnb48 := NB583_563.out; have hnc48 := NB563_583.out; have hnb49 := NB583_571.out; have hnc49 := NB571_583.out; have hnb50 := NB583_577.out; have hnc50 := NB577_583.out; obtain ⟨hcz51_0, hcz51_1, hfz51_0, hfz51_1⟩ := cz2_ BK583; obtain ⟨Ao52, co52, eo52⟩ := Kd.R_slice HO581.out; subst eo52; obtain ⟨hcz53_0, hcz53_1, hfz53_0, hfz53_1⟩ := cz2_ BK563) | ((with_reducible refine gate_callee (f := 26) rfl ?_); refine goesL_ (some 49) rfl rfl Try.func26 (by kernel_rfl) rfl #[.agg #[.int .i64 a0_0, .slice A0_1 l0_1.length c0_1], .int .i64 a1] rfl MP_ ?_; (with_reducible refine (zone_Itv.calls k a0_0 _ _ l0_1 a1 t584 t585 t586 _ ?side1 ?side2 A14.out).mono ?_); (case side1 => exact Kd.C_below HR0_1.out HB_); (case side2 => exact HC0_1.out); rintro e w54 ⟨rfl, hb⟩; refine ⟨_, rfl, ?_⟩; have n_ := a_ (Aside0.mk (Kd.R_below (rd_ (rf2_ HO569 BK583 (.int .i64 t578) (.slice Ao52 t579.length co52))) hb)) (a_ (Aside0.mk (Kd.R_below (rd_ (rf2_ HO575 BK583 (.int .i64 t578) (.slice Ao52 t579.length co52))) hb)) (a_ (Aside0.mk (Kd.R_below (rd_ (rf2_ HO581 BK583 (.int .i64 t578) (.slice Ao52 t579.length co52))) hb)) (a_ (bc_ #[.int .i64 a0_0, .slice A0_1 l0_1.length c0_1] 24 BK563 hb) (a_ (bc_ #[.int .i64 t566, .slice Ao37 t567.length co37] 24 BK571 hb) (a_ (bc_ #[.int .i64 t572, .slice Ao44 t573.length co44] 24 BK577 hb) (a_ (bc_ #[.int .i64 t578, .slice Ao52 t579.length co52] 24 BK583 hb) (bs_ HB hb))))))); clear HO569 HO575 HO581 BK563 BK571 BK577 BK583 HB; obtain ⟨HO569, HO575, HO581, BK563, BK571, BK577, BK583, HB⟩ := n_; (try clear hb); (try clear hb2); (try clear hk); (try clear hi)) | ((with_reducible refine gate_dst (N := 15) rfl ?_); (try (refine gate_guard (by rfl) ?_; dsimp only)); refine bx_ (N := 15) (cs := #[.int .i64 0, .int .i64 0]) (t := 39) ?_; intro gb587 hg w55 hbox hb; have n_ := a_ (rb_ HO569 hb) (a_ (rb_ HO575 hb) (a_ (rb_ HO581 hb) (a_ (bb_ BK563 hb) (a_ (bb_ BK571 hb) (a_ (bb_ BK577 hb) (a_ (bb_ BK583 hb) (a_ (bs_ HB hb) (a_ (Aside0.mk hbox) (a_ (gs_ HB hg) (a_ (gs_ HB hg) (a_ (nl_ BK563 hg) (a_ (ng_ BK563 hg) (a_ (nl_ BK571 hg) (a_ (ng_ BK571 hg) (a_ (nl_ BK577 hg) (a_ (ng_ BK577 hg) (a_ (nl_ BK583 hg) (ng_ BK583 hg)))))))))))))))))); clear HO569 HO575 HO581 BK563 BK571 BK577 BK583 HB; obtain ⟨HO569, HO575, HO581, BK563, BK571, BK577, BK583, HB, BK587, GW587, GE587, NB563_587, NB587_563, NB571_587, NB587_571, NB577_587, NB587_577, NB583_587, NB587_583⟩ := n_; clear hb hbox hg; have hnb56 := NB587_563.out; have hnc56 := NB563_587.out; have hnb57 := NB587_571.out; have hnc57 := NB571_587.out; have hnb58 := NB587_577.out; have hnc58 := NB577_587.out; have hnb59 := NB587_583.out; have hnc59 := NB583_587.out; obtain ⟨hcz60_0, hcz60_1, hfz60_0, hfz60_1⟩ := cz2_ BK587) | ((with_reducible refine gate_callee (f := 22) rfl ?_); refine goesL_ (some 52) rfl rfl Try.func22 (by kernel_rfl) rfl #[] rfl MP_ ?_; (with_reducible refine (warrantorlaw09_lives.calls k  true _ A15.out).mono ?_); rintro e w61 ⟨rfl, hb⟩; refine ⟨_, rfl, ?_⟩; have n_ := a_ (Aside0.mk (Kd.R_below (rd_ (rf2_ HO569 BK587 (.int .i64 t584) (.int .i64 t585))) hb)) (a_ (Aside0.mk (Kd.R_below (rd_ (rf2_ HO575 BK587 (.int .i64 t584) (.int .i64 t585))) hb)) (a_ (Aside0.mk (Kd.R_below (rd_ (rf2_ HO581 BK587 (.int .i64 t584) (.int .i64 t585))) hb)) (a_ (bc_ #[.int .i64 a0_0, .slice A0_1 l0_1.length c0_1] 24 BK563 hb) (a_ (bc_ #[.int .i64 t566, .slice Ao37 t567.length co37] 24 BK571 hb) (a_ (bc_ #[.int .i64 t572, .slice Ao44 t573.length co44] 24 BK577 hb) (a_ (bc_ #[.int .i64 t578, .slice Ao52 t579.length co52] 24 BK583 hb) (a_ (bc_ #[.int .i64 t584, .int .i64 t585] 39 BK587 hb) (bs_ HB hb)))))))); clear HO569 HO575 HO581 BK563 BK571 BK577 BK583 BK587 HB; obtain ⟨HO569, HO575, HO581, BK563, BK571, BK577, BK583, BK587, HB⟩ := n_; (try clear hb); (try clear hb2); (try clear hk); (try clear hi); obtain ⟨hcz62_0, hcz62_1, hfz62_0, hfz62_1⟩ := cz2_ BK563) | ((with_reducible refine gate_callee (f := 27) rfl ?_); refine goesL_ (some 55) rfl rfl Try.func27 (by kernel_rfl) rfl #[.agg #[.int .i64 a0_0, .slice A0_1 l0_1.length c0_1]] rfl MP_ ?_; (with_reducible refine (warrantorref08_Check.calls k a0_0 _ _ l0_1 true _ ?side1 ?side2 A17.out).mono ?_); (case side1 => exact sd_ (Kd.C_below HR0_1.out HB.out)); (case side2 => exact HC0_1.out); rintro e w63 ⟨rfl, hb⟩; refine ⟨_, rfl, ?_⟩; have n_ := a_ (rb_ HO569 hb) (a_ (rb_ HO575 hb) (a_ (rb_ HO581 hb) (a_ (bb_ BK563 hb) (a_ (bb_ BK571 hb) (a_ (bb_ BK577 hb) (a_ (bb_ BK583 hb) (a_ (bb_ BK587 hb) (bs_ HB hb)))))))); clear HO569 HO575 HO581 BK563 BK571 BK577 BK583 BK587 HB; obtain ⟨HO569, HO575, HO581, BK563, BK571, BK577, BK583, BK587, HB⟩ := n_; (try clear hb); (try clear hb2); (try clear hk); (try clear hi)))
  first | (obtain ⟨w63, hq_⟩ : ∃ x, x = w63.drewN nd := ⟨_, rfl⟩; rw [← hq_]; have q0_ := Aside0.mk (Kd.R_drewN HO569.out nd); rw [← hq_] at q0_; have q1_ := Aside0.mk (Kd.R_drewN HO575.out nd); rw [← hq_] at q1_; have q2_ := Aside0.mk (Kd.R_drewN HO581.out nd); rw [← hq_] at q2_; have q3_ := Aside0.mk (blk_drewN BK563.out nd); rw [← hq_] at q3_; have q4_ := Aside0.mk (blk_drewN BK571.out nd); rw [← hq_] at q4_; have q5_ := Aside0.mk (blk_drewN BK577.out nd); rw [← hq_] at q5_; have q6_ := Aside0.mk (blk_drewN BK583.out nd); rw [← hq_] at q6_; have q7_ := Aside0.mk (blk_drewN BK587.out nd); rw [← hq_] at q7_; have q8_ := Aside0.mk (pw_below_drewN HB.out nd); rw [← hq_] at q8_; clear HO569; clear HO575; clear HO581; clear BK563; clear BK571; clear BK577; clear BK583; clear BK587; clear HB; have HO569 := q0_; have HO575 := q1_; have HO581 := q2_; have BK563 := q3_; have BK571 := q4_; have BK577 := q5_; have BK583 := q6_; have BK587 := q7_; have HB := q8_; clear hq_ q0_ q1_ q2_ q3_ q4_ q5_ q6_ q7_ q8_) | skip
  have n_ := a_ (Aside0.mk (Kd.R_drew HO569.out)) (a_ (Aside0.mk (Kd.R_drew HO575.out)) (a_ (Aside0.mk (Kd.R_drew HO581.out)) (a_ (Aside0.mk (blk_drew BK563.out)) (a_ (Aside0.mk (blk_drew BK571.out)) (a_ (Aside0.mk (blk_drew BK577.out)) (a_ (Aside0.mk (blk_drew BK583.out)) (a_ (Aside0.mk (blk_drew BK587.out)) (Aside0.mk (below_drew1 HB.out)))))))))
  clear HO569 HO575 HO581 BK563 BK571 BK577 BK583 BK587 HB
  obtain ⟨HO569, HO575, HO581, BK563, BK571, BK577, BK583, BK587, HB⟩ := n_
  refine start_ (n := 12) (S := fun w' => w'.cell? ⟨gb563, 0, none⟩ = some (.int .i64 a0_0) ∧ w'.cell? ⟨gb563, 1, none⟩ = some (.slice A0_1 l0_1.length c0_1)) (ds := []) #[false, false, false, false, false, false, false, false, false, false, false, false] (by kernel_rfl) rfl rfl ⟨(blk_cell BK563.out 0).trans rfl, (blk_cell BK563.out 1).trans rfl⟩ (fun hHeld => ?_); refine with_tabW warrantorlaw09_ZoneOne_v0.tab11 warrantorlaw09_ZoneOne_v0.bits11 (fun HT_ HW_ => ?_)
  generalize w63.drew = w64 at HO569 HO575 HO581 BK563 BK571 BK577 BK583 BK587 HB hHeld ⊢
  refine pu_ 1 (some 91) ?_
  refine pu_ 4 (some 94) ?_
  refine pu_ 7 (some 97) ?_
  refine take_ (i := 0) (N := some 90) (v := ?_) (a' := ?_) #[true, true, false, false, true, false, false, true, false, false, false, false] rfl rfl (take_ofW HT_.out HW_.out (by kernel_rfl)) (fun _ _ _ h => h) (Or.inl ⟨by rfl, ?_⟩) hHeld ?_ ?_
  rotate_left
  · rintro w' ⟨s0, s1⟩
    go_simp
    with_reducible rfl
  rotate_left
  · exact AP_
  refine take_ (i := 3) (N := some 93) (v := ?_) (a' := ?_) #[true, true, false, true, true, false, false, true, false, false, false, false] rfl rfl (take_ofW HT_.out HW_.out (by kernel_rfl)) (fun _ _ _ h => h) (Or.inl ⟨by rfl, ?_⟩) hHeld ?_ ?_
  rotate_left
  · rintro w' ⟨s0, s1⟩
    go_simp
    with_reducible rfl
  rotate_left
  · exact AP_
  refine take_ (i := 6) (N := some 96) (v := ?_) (a' := ?_) #[true, true, false, true, true, false, true, true, false, false, false, false] rfl rfl (take_ofW HT_.out HW_.out (by kernel_rfl)) (fun _ _ _ h => h) (Or.inl ⟨by rfl, ?_⟩) hHeld ?_ ?_
  rotate_left
  · rintro w' ⟨s0, s1⟩
    go_simp
    with_reducible rfl
  rotate_left
  · exact AP_
  refine on_ 2 (some 92) (fun K hK => ?_)
  refine goes_ Try.func28 (by kernel_rfl) rfl #[.agg #[.int .i64 a0_0, .slice A0_1 l0_1.length c0_1], .int .i64 a1] (by rfl) rfl rfl MP_ ?_
  with_reducible refine (warrantorref09_Var.calls a0_0 _ _ l0_1 a1 false _ ?side1 ?side2 A19.out).mono ?_
  (case side1 => exact sd_ (Kd.C_below HR0_1.out HB.out))
  (case side2 => exact HC0_1.out)
  rintro e w65 ⟨rfl, hb⟩
  refine ⟨_, rfl, ?_⟩
  have n_ := a_ (rb_ HO569 hb) (a_ (rb_ HO575 hb) (a_ (rb_ HO581 hb) (a_ (bb_ BK563 hb) (a_ (bb_ BK571 hb) (a_ (bb_ BK577 hb) (a_ (bb_ BK583 hb) (a_ (bb_ BK587 hb) (bs_ HB hb))))))))
  clear HO569 HO575 HO581 BK563 BK571 BK577 BK583 BK587 HB
  obtain ⟨HO569, HO575, HO581, BK563, BK571, BK577, BK583, BK587, HB⟩ := n_
  (try clear hb)
  (try clear hb2)
  (try clear hk)
  (try clear hi)
  refine hK.out _ _ ⟨(blk_cell BK563.out 0).trans rfl, (blk_cell BK563.out 1).trans rfl⟩ (fun hHeld => ?_)
  clear hK K
  refine nm_ ?_
  refine on_ 5 (some 95) (fun K hK => ?_)
  refine goes_ Try.func29 (by kernel_rfl) rfl #[.agg #[.int .i64 a0_0, .slice A0_1 l0_1.length c0_1], .int .i64 a1] (by rfl) rfl rfl MP_ ?_
  with_reducible refine (warrantorref09_Or0.calls a0_0 _ _ l0_1 a1 false _ ?side1 ?side2 A20.out).mono ?_
  (case side1 => exact sd_ (Kd.C_below HR0_1.out HB.out))
  (case side2 => exact HC0_1.out)
  rintro e w66 ⟨rfl, hb⟩
  refine ⟨_, rfl, ?_⟩
  have n_ := a_ (rb_ HO569 hb) (a_ (rb_ HO575 hb) (a_ (rb_ HO581 hb) (a_ (bb_ BK563 hb) (a_ (bb_ BK571 hb) (a_ (bb_ BK577 hb) (a_ (bb_ BK583 hb) (a_ (bb_ BK587 hb) (bs_ HB hb))))))))
  clear HO569 HO575 HO581 BK563 BK571 BK577 BK583 BK587 HB
  obtain ⟨HO569, HO575, HO581, BK563, BK571, BK577, BK583, BK587, HB⟩ := n_
  (try clear hb)
  (try clear hb2)
  (try clear hk)
  (try clear hi)
  refine hK.out _ _ ⟨(blk_cell BK563.out 0).trans rfl, (blk_cell BK563.out 1).trans rfl⟩ (fun hHeld => ?_)
  clear hK K
  refine nm_ ?_
  refine on_ 8 (some 98) (fun K hK => ?_)
  refine goes_ Try.func29 (by kernel_rfl) rfl #[.agg #[.int .i64 a0_0, .slice A0_1 l0_1.length c0_1], .int .i64 a2] (by rfl) rfl rfl MP_ ?_
  with_reducible refine (warrantorref09_Or0.calls a0_0 _ _ l0_1 a2 t592 _ ?side1 ?side2 A21.out).mono ?_
  (case side1 => exact sd_ (Kd.C_below HR0_1.out HB.out))
  (case side2 => exact HC0_1.out)
  rintro e w67 ⟨rfl, hb⟩
  refine ⟨_, rfl, ?_⟩
  have n_ := a_ (rb_ HO569 hb) (a_ (rb_ HO575 hb) (a_ (rb_ HO581 hb) (a_ (bb_ BK563 hb) (a_ (bb_ BK571 hb) (a_ (bb_ BK577 hb) (a_ (bb_ BK583 hb) (a_ (bb_ BK587 hb) (bs_ HB hb))))))))
  clear HO569 HO575 HO581 BK563 BK571 BK577 BK583 BK587 HB
  obtain ⟨HO569, HO575, HO581, BK563, BK571, BK577, BK583, BK587, HB⟩ := n_
  (try clear hb)
  (try clear hb2)
  (try clear hk)
  (try clear hi)
  refine hK.out _ _ ⟨(blk_cell BK563.out 0).trans rfl, (blk_cell BK563.out 1).trans rfl⟩ (fun hHeld => ?_)
  clear hK K
  refine nm_ ?_
  refine pu_ 9 (some 17) ?_
  refine pu_ 10 (some 18) ?_
  refine pu_ 11 (some 19) ?_
  refine done_ (done_of HT_.out (by kernel_rfl)) ?_
  try go_wp2
  go_ret
  exact ⟨by first | rfl | (simp [errW_none, errW_some] <;> rfl) | (simp [*, errW_none, errW_some] <;> rfl), HB_⟩
end Go.Proofs.Ytgeemdpflcefkaa.Z

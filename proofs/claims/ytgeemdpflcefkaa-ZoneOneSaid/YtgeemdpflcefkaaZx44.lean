-- WRITTEN BY this session's program wip/ext.py, in print.py's manner
import Derived.Test.YtgeemdpflcefkaaZx0
import Derived.Test.YtgeemdpflcefkaaZx1
import Derived.Test.YtgeemdpflcefkaaZx3
import Derived.Test.YtgeemdpflcefkaaZx15
import Derived.Test.YtgeemdpflcefkaaZx16
import Derived.Test.YtgeemdpflcefkaaZx17
import Derived.Test.YtgeemdpflcefkaaZx19
import Derived.Test.YtgeemdpflcefkaaZx33
import Derived.Test.YtgeemdpflcefkaaZx35
import Derived.Test.YtgeemdpflcefkaaZx39
namespace Go.Proofs.Ytgeemdpflcefkaa.Z
open Go.RowKit Go.Proofs.YtgeemdpflcefkaaW.PrintWords Go.Proofs.YtgeemdpflcefkaaW.PrintLast Go.Proofs.YtgeemdpflcefkaaW.PrintMore
attribute [local go_sem] max2_int min2_int max_two min_two max_three min_three max_four min_four   -- for this text's walks alone
set_option linter.unusedVariables false
set_option linter.unusedSimpArgs false

attribute [local go_sem high] eqA39
/-! ### warrantorlaw09_ZoneOne_v3: function 4 -/
def warrantorlaw09_ZoneOne_v3.f (k : Nat) (a0_0 : Int) (l0_1 : List Int) (a1 : Int) (a2 : Int) (a3 : Int) : Option (Bool) := (warrantorref08_Large.f l0_1).bind fun t676 => (if t676 = true then (none) else ((zone_Limit.f k a0_0 l0_1 a1 a2 a3).bind fun bt677 => ((zone_Forget.f k a0_0 l0_1 a1).bind fun bt683 => ((zone_Let.f k a0_0 l0_1 a1 a2 a3).bind fun bt689 => ((zone_Itv.f k a0_0 l0_1 a1).bind fun bt695 => ((warrantorlaw09_lives.f k).bind fun t699 => (if t699 = true then ((warrantorref08_Check.f k a0_0 l0_1).bind fun t700 => (if t700 = true then ((warrantorref09_Var.f a0_0 l0_1 a1).bind fun t701 => ((warrantorref09_Or0.f a0_0 l0_1 a1).bind fun t702 => ((warrantorref09_Or0.f a0_0 l0_1 a2).bind fun t703 => (if t702 = true then (if ((bt677.2.2 == 0) != t703) = true then (none) else (if ((bt683.2.2 == 0) != t701) = true then (none) else (if t701 = true then (none) else (if ((bt689.2.2 == 0) != false) = true then (none) else (if ((bt695.2.2 == 0) != t702) = true then (none) else ((warrantorref09_Itv.f a0_0 l0_1 a1).bind fun bt704 => (if (!(bt695.1 == bt704.1) || (!(bt695.2.1 == bt704.2))) = true then (none) else (if t703 = true then ((warrantorref09_Limit.f k a0_0 l0_1 a1 a2 a3).bind fun bt706 => ((warrantorref08_Same.f k bt677.1 bt677.2.1 bt706.1 bt706.2).bind fun t710 => (if t710 = true then (some true) else (none)))) else (none))))))))) else (none))))) else (none))) else (none))))))))
theorem warrantorlaw09_ZoneOne_v3.mono : ∀ a0 a1 a2 a3 a4 k, LeO (warrantorlaw09_ZoneOne_v3.f k a0 a1 a2 a3 a4) (warrantorlaw09_ZoneOne_v3.f (k + 1) a0 a1 a2 a3 a4) := by
  intro a0 a1 a2 a3 a4 k
  unfold warrantorlaw09_ZoneOne_v3.f
  repeat' first
      | (with_reducible exact warrantorlaw09_lives.mono _)
      | (with_reducible exact warrantorref08_Check.mono _ _ _)
      | (with_reducible exact warrantorref08_Same.mono _ _ _ _ _)
      | (with_reducible exact warrantorref09_Limit.mono _ _ _ _ _ _)
      | (with_reducible exact zone_Forget.mono _ _ _ _)
      | (with_reducible exact zone_Itv.mono _ _ _ _)
      | (with_reducible exact zone_Let.mono _ _ _ _ _ _)
      | (with_reducible exact zone_Limit.mono _ _ _ _ _ _)
      | (with_reducible exact LeO.refl _)
      | (with_reducible exact LeO.none _)
      | (with_reducible refine LeO.ite ?_ ?_)
      | (with_reducible refine LeO.bind ?_ (fun _ => ?_))
      | exact warrantorlaw09_lives.mono _
      | exact warrantorref08_Check.mono _ _ _
      | exact warrantorref08_Same.mono _ _ _ _ _
      | exact warrantorref09_Limit.mono _ _ _ _ _ _
      | exact zone_Forget.mono _ _ _ _
      | exact zone_Itv.mono _ _ _ _
      | exact zone_Let.mono _ _ _ _ _ _
      | exact zone_Limit.mono _ _ _ _ _ _
      | exact LeO.none _
      | refine LeO.ite ?_ ?_
      | refine LeO.bind ?_ (fun _ => ?_)
def warrantorlaw09_ZoneOne_v3.T11 : Bool × List (List Nat × List Nat) := (true, [([], []), ([], []), ([0, 1], [0, 1]), ([], []), ([], []), ([3, 4, 2], [3, 4]), ([], []), ([], []), ([6, 7, 5], [6, 7]), ([2, 8, 0, 1, 2], [2]), ([5, 9, 0, 1, 2, 3, 4, 5, 9], [5]), ([8, 10, 0, 1, 2, 3, 4, 5, 6, 7, 8, 9, 10], [8])])
def warrantorlaw09_ZoneOne_v3.B11 : List Nat := [0, 0, 3, 0, 0, 31, 0, 0, 255, 511, 1023, 2047]
theorem warrantorlaw09_ZoneOne_v3.tab11 : rtab .any (opsOf Try.f4 11) = warrantorlaw09_ZoneOne_v3.T11 := by kernel_rfl
theorem warrantorlaw09_ZoneOne_v3.bits11 : waitsOk warrantorlaw09_ZoneOne_v3.T11.2 warrantorlaw09_ZoneOne_v3.B11 = true := by kernel_rfl
def warrantorlaw09_ZoneOne_v3.T16 : Bool × List (List Nat × List Nat) := (true, [([], []), ([], []), ([], []), ([1, 2], [1, 2]), ([0, 3], [0, 3]), ([4, 3], [4]), ([5], [5]), ([6, 5, 5], [5, 6]), ([7], [7]), ([7], [7]), ([7], [7]), ([9, 10, 7, 7], [7, 9, 10]), ([8, 11, 11, 7], [7, 8, 11]), ([12, 7], [7, 12]), ([7, 13, 5], [5, 7, 13]), ([5, 14], [5, 14])])
def warrantorlaw09_ZoneOne_v3.B16 : List Nat := [0, 0, 0, 6, 15, 31, 63, 127, 255, 255, 255, 1791, 4095, 8191, 16383, 32767]
theorem warrantorlaw09_ZoneOne_v3.tab16 : rtab .any (opsOf Try.f4 16) = warrantorlaw09_ZoneOne_v3.T16 := by kernel_rfl
theorem warrantorlaw09_ZoneOne_v3.bits16 : waitsOk warrantorlaw09_ZoneOne_v3.T16.2 warrantorlaw09_ZoneOne_v3.B16 = true := by kernel_rfl
def warrantorlaw09_ZoneOne_v3.T18 : Bool × List (List Nat × List Nat) := (true, [([], []), ([0], [0]), ([1], [1]), ([2], [2]), ([2], [2]), ([2], [2]), ([2], [2]), ([2], [2]), ([4, 5, 6, 7, 2, 2], [2, 4, 5, 6, 7]), ([3, 8, 8, 2], [2, 3, 8]), ([2, 9], [2, 9]), ([10, 9], [10]), ([11], [11]), ([12, 11], [11, 12]), ([13, 11, 11], [11, 13]), ([14], [14]), ([15, 14], [14, 15]), ([14, 16, 11], [11, 14, 16]), ([17, 14, 11], [11, 17]), ([18], [18]), ([18], [18]), ([18], [18]), ([18], [18]), ([18], [18]), ([20, 21, 22, 23, 18, 18], [18, 20, 21, 22, 23]), ([19, 24, 24, 18], [18, 19, 24]), ([18, 25, 11], [11, 18, 25]), ([11, 26], [11, 26]), ([27, 25, 0, 1, 2, 3, 4, 5, 6, 7, 8, 9, 10, 11, 12, 13, 14, 15, 16, 17, 18, 19, 20, 21, 22, 23, 24, 25, 26, 27], [27])])
def warrantorlaw09_ZoneOne_v3.B18 : List Nat := [0, 1, 3, 7, 7, 7, 7, 7, 247, 511, 1023, 2047, 4095, 8191, 16383, 32767, 65535, 131071, 262143, 524287, 524287, 524287, 524287, 524287, 16252927, 33554431, 67108863, 134217727, 268435455]
theorem warrantorlaw09_ZoneOne_v3.tab18 : rtab .any (opsOf Try.f4 18) = warrantorlaw09_ZoneOne_v3.T18 := by kernel_rfl
theorem warrantorlaw09_ZoneOne_v3.bits18 : waitsOk warrantorlaw09_ZoneOne_v3.T18.2 warrantorlaw09_ZoneOne_v3.B18 = true := by kernel_rfl
set_option maxHeartbeats 8000000 in
set_option maxRecDepth 100000 in
theorem warrantorlaw09_ZoneOne_v3.calls (k : Nat) (a0_0 : Int) (A0_1 : Option Addr) (c0_1 : Nat) (l0_1 : List Int) (a1 : Int) (a2 : Int) (a3 : Int) (r : Bool) (w : World) (hr0_1 : Kd.C (Kd.int .i64) w A0_1 l0_1.length l0_1) (hc0_1 : l0_1.length ≤ c0_1) (h : warrantorlaw09_ZoneOne_v3.f k a0_0 l0_1 a1 a2 a3 = some r) :
    Calls Try.prog 4 #[.agg #[.int .i64 a0_0, .slice A0_1 l0_1.length c0_1], .int .i64 a1, .int .i64 a2, .int .i64 a3] w fun e w' => e = .returned (.bool r) ∧ Below w.heap.size w w' := by
  have hu24 := Try.underlying24
  have hu39 := Try.underlying39
  have HR0_1 := Aside0.mk hr0_1
  have HC0_1 := Aside0.mk hc0_1
  clear hr0_1 hc0_1
  have HB := Aside0.mk (Below.refl w.heap.size w)
  have H : ((warrantorref08_Large.f l0_1).bind fun t676 => (if t676 = true then (none) else ((zone_Limit.f k a0_0 l0_1 a1 a2 a3).bind fun bt677 => ((zone_Forget.f k a0_0 l0_1 a1).bind fun bt683 => ((zone_Let.f k a0_0 l0_1 a1 a2 a3).bind fun bt689 => ((zone_Itv.f k a0_0 l0_1 a1).bind fun bt695 => ((warrantorlaw09_lives.f k).bind fun t699 => (if t699 = true then ((warrantorref08_Check.f k a0_0 l0_1).bind fun t700 => (if t700 = true then ((warrantorref09_Var.f a0_0 l0_1 a1).bind fun t701 => ((warrantorref09_Or0.f a0_0 l0_1 a1).bind fun t702 => ((warrantorref09_Or0.f a0_0 l0_1 a2).bind fun t703 => (if t702 = true then (if ((bt677.2.2 == 0) != t703) = true then (none) else (if ((bt683.2.2 == 0) != t701) = true then (none) else (if t701 = true then (none) else (if ((bt689.2.2 == 0) != false) = true then (none) else (if ((bt695.2.2 == 0) != t702) = true then (none) else ((warrantorref09_Itv.f a0_0 l0_1 a1).bind fun bt704 => (if (!(bt695.1 == bt704.1) || (!(bt695.2.1 == bt704.2))) = true then (none) else (if t703 = true then ((warrantorref09_Limit.f k a0_0 l0_1 a1 a2 a3).bind fun bt706 => ((warrantorref08_Same.f k bt677.1 bt677.2.1 bt706.1 bt706.2).bind fun t710 => (if t710 = true then (some true) else (none)))) else (none))))))))) else (none))))) else (none))) else (none))))))))) = some r := h
  clear h
  replace H := bd_ H
  obtain ⟨t676, A5, H⟩ := H
  (try dsimp only at H)
  by_cases c6 : t676 = true
  · subst c6
    replace H := ps1_ H
    exact absurd H (by simp)
  replace c6 := Bool.eq_false_iff.mpr c6
  subst c6
  replace H := ng1_ H
  replace H := bd_ H
  obtain ⟨⟨t677, t678, t681⟩, A7, H⟩ := H
  (try dsimp only at H)
  replace H := bd_ H
  obtain ⟨⟨t683, t684, t687⟩, A8, H⟩ := H
  (try dsimp only at H)
  replace H := bd_ H
  obtain ⟨⟨t689, t690, t693⟩, A9, H⟩ := H
  (try dsimp only at H)
  replace H := bd_ H
  obtain ⟨⟨t695, t696, t697⟩, A10, H⟩ := H
  (try dsimp only at H)
  replace H := bd_ H
  obtain ⟨t699, A11, H⟩ := H
  (try dsimp only at H)
  replace H := yes_ H
  obtain ⟨c12, H⟩ := H
  subst c12
  replace H := bd_ H
  obtain ⟨t700, A13, H⟩ := H
  (try dsimp only at H)
  replace H := yes_ H
  obtain ⟨c14, H⟩ := H
  subst c14
  replace H := bd_ H
  obtain ⟨t701, A15, H⟩ := H
  (try dsimp only at H)
  replace H := bd_ H
  obtain ⟨t702, A16, H⟩ := H
  (try dsimp only at H)
  replace H := bd_ H
  obtain ⟨t703, A17, H⟩ := H
  (try dsimp only at H)
  replace H := yes_ H
  obtain ⟨c18, H⟩ := H
  subst c18
  by_cases c19 : ((t681 == 0) != t703) = true
  · rw [if_pos c19] at H
    exact absurd H (by simp)
  rw [if_neg c19] at H
  have c19b0 : ((t681 == 0) != t703) = false := by simpa using c19
  (try (have c19b1 : decide ((t681 == 0) = t703) = true := by simpa using c19))
  (try (have c19b2 : ((t681 == 0) == t703) = true := by simpa using c19))
  clear c19
  by_cases c20 : ((t687 == 0) != t701) = true
  · rw [if_pos c20] at H
    exact absurd H (by simp)
  rw [if_neg c20] at H
  have c20b0 : ((t687 == 0) != t701) = false := by simpa using c20
  (try (have c20b1 : decide ((t687 == 0) = t701) = true := by simpa using c20))
  (try (have c20b2 : ((t687 == 0) == t701) = true := by simpa using c20))
  clear c20
  by_cases c21 : t701 = true
  · subst c21
    replace H := ps1_ H
    exact absurd H (by simp)
  replace c21 := Bool.eq_false_iff.mpr c21
  subst c21
  replace H := ng1_ H
  by_cases c22 : ((t693 == 0) != false) = true
  · rw [if_pos c22] at H
    exact absurd H (by simp)
  rw [if_neg c22] at H
  have c22b0 : ((t693 == 0) != false) = false := by simpa using c22
  (try (have c22b1 : decide ((t693 == 0) = false) = true := by simpa using c22))
  (try (have c22b2 : ((t693 == 0) == false) = true := by simpa using c22))
  clear c22
  by_cases c23 : ((t697 == 0) != true) = true
  · rw [if_pos c23] at H
    exact absurd H (by simp)
  rw [if_neg c23] at H
  have c23b0 : ((t697 == 0) != true) = false := by simpa using c23
  (try (have c23b1 : decide ((t697 == 0) = true) = true := by simpa using c23))
  (try (have c23b2 : ((t697 == 0) == true) = true := by simpa using c23))
  clear c23
  replace H := bd_ H
  obtain ⟨⟨t704, t705⟩, A24, H⟩ := H
  (try dsimp only at H)
  by_cases c25 : (!(t695 == t704) || (!(t696 == t705))) = true
  · rw [if_pos c25] at H
    exact absurd H (by simp)
  rw [if_neg c25] at H
  have c25b0 : (!(t695 == t704) || (!(t696 == t705))) = false := by simpa using c25
  clear c25
  replace H := yes_ H
  obtain ⟨c26, H⟩ := H
  subst c26
  replace H := bd_ H
  obtain ⟨⟨t706, t707⟩, A27, H⟩ := H
  (try dsimp only at H)
  replace H := bd_ H
  obtain ⟨t710, A28, H⟩ := H
  (try dsimp only at H)
  replace H := yes_ H
  obtain ⟨c29, H⟩ := H
  subst c29
  obtain rfl := Option.some.inj H
  go_enter Try.func4, Try.ntmps4
  try go_wp2_with (first | ((with_reducible refine gate_dst (N := 4) rfl ?_); (try (refine gate_guard (by rfl) ?_; dsimp only)); refine bx_ (N := 4) (cs := #[.int .i64 a0_0, .slice A0_1 l0_1.length c0_1]) (t := 24) ?_; intro gb675 hg w30 hbox hb; have n_ := a_ (bs_ HB hb) (a_ (Aside0.mk hbox) (a_ (gs_ HB hg) (gs_ HB hg))); clear HB; obtain ⟨HB, BK675, GW675, GE675⟩ := n_; clear hb hbox hg; obtain ⟨hcz31_0, hcz31_1, hfz31_0, hfz31_1⟩ := cz2_ BK675) | ((with_reducible refine gate_callee (f := 12) rfl ?_); refine goesL_ (some 22) rfl rfl Try.func12 (by kernel_rfl) rfl #[.slice A0_1 l0_1.length c0_1] rfl MP_ ?_; (with_reducible refine (warrantorref08_Large.calls _ _ l0_1 false _ ?side1 ?side2 A5.out).mono ?_); (case side1 => exact sd_ (Kd.C_below HR0_1.out HB.out)); (case side2 => exact HC0_1.out); rintro e w' ⟨rfl, ⟨nd, rfl⟩⟩; refine ⟨_, rfl, ?_⟩; (try (rw [drewN_self w30]; generalize hq_ : World.drewN w30 _ = w30; have n0_ : Aside0 (w30.heap[gb675]? = some (.cells #[.int .i64 a0_0, .slice A0_1 l0_1.length c0_1] 24 (0, 0))) := ⟨by rw [← hq_]; exact (bk_ BK675.out)⟩; have n1_ : Aside0 (Below w.heap.size w w30) := ⟨by rw [← hq_]; exact HB_⟩; clear BK675 HB hq_; have BK675 := n0_; have HB := n1_; clear n0_ n1_; (try (obtain ⟨hczu_gb675_0, hczu_gb675_1, hfzu_gb675_0, hfzu_gb675_1⟩ := cz2_ BK675))))) | ((with_reducible refine gate_callee (f := 23) rfl ?_); refine goesL_ (some 29) rfl rfl Try.func23 (by kernel_rfl) rfl #[.agg #[.int .i64 a0_0, .slice A0_1 l0_1.length c0_1], .int .i64 a1, .int .i64 a2, .int .i64 a3] rfl MP_ ?_; (with_reducible refine (zone_Limit.calls k a0_0 _ _ l0_1 a1 a2 a3 t677 t678 t681 _ ?side1 ?side2 A7.out).mono ?_); (case side1 => exact sd_ (Kd.C_below HR0_1.out HB.out)); (case side2 => exact HC0_1.out); rintro e w32 ⟨v679, rfl, ho0, hb⟩; refine ⟨_, rfl, ?_⟩; have n_ := a_ (Aside0.mk (Kd.R_lower ho0 (below_size HB_))) (a_ (bb_ BK675 hb) (bs_ HB hb)); clear BK675 HB; obtain ⟨HO680, BK675, HB⟩ := n_; (try clear hb); (try clear hb2); (try clear hk); (try clear hi); (try clear ho0)) | ((with_reducible refine gate_dst (N := 9) rfl ?_); (try (refine gate_guard (by rfl) ?_; dsimp only)); refine bx_ (N := 9) (cs := #[.int .i64 0, .slice none 0 0]) (t := 24) ?_; intro gb682 hg w33 hbox hb; have n_ := a_ (rb_ HO680 hb) (a_ (bb_ BK675 hb) (a_ (bs_ HB hb) (a_ (Aside0.mk hbox) (a_ (gs_ HB hg) (a_ (gs_ HB hg) (a_ (nl_ BK675 hg) (ng_ BK675 hg))))))); clear HO680 BK675 HB; obtain ⟨HO680, BK675, HB, BK682, GW682, GE682, NB675_682, NB682_675⟩ := n_; clear hb hbox hg; have hnb34 := NB682_675.out; have hnc34 := NB675_682.out; obtain ⟨hcz35_0, hcz35_1, hfz35_0, hfz35_1⟩ := cz2_ BK682; obtain ⟨Ao36, co36, eo36⟩ := Kd.R_slice HO680.out; subst eo36; obtain ⟨hcz37_0, hcz37_1, hfz37_0, hfz37_1⟩ := cz2_ BK675) | ((with_reducible refine gate_callee (f := 24) rfl ?_); refine goesL_ (some 35) rfl rfl Try.func24 (by kernel_rfl) rfl #[.agg #[.int .i64 a0_0, .slice A0_1 l0_1.length c0_1], .int .i64 a1] rfl MP_ ?_; (with_reducible refine (zone_Forget.calls k a0_0 _ _ l0_1 a1 t683 t684 t687 _ ?side1 ?side2 A8.out).mono ?_); (case side1 => exact Kd.C_below HR0_1.out HB_); (case side2 => exact HC0_1.out); rintro e w38 ⟨v685, rfl, ho0, hb⟩; refine ⟨_, rfl, ?_⟩; have n_ := a_ (Aside0.mk (Kd.R_elder' (rd_ (rf2_ HO680 BK682 (.int .i64 t677) (.slice Ao36 t678.length co36))) (Kd.R_base ho0) hb)) (a_ (Aside0.mk (Kd.R_lower (Kd.R_new' ho0 (Kd.R_lt (rd_ (rf2_ HO680 BK682 (.int .i64 t677) (.slice Ao36 t678.length co36))))) (below_size HB_))) (a_ (bc_ #[.int .i64 a0_0, .slice A0_1 l0_1.length c0_1] 24 BK675 hb) (a_ (bc_ #[.int .i64 t677, .slice Ao36 t678.length co36] 24 BK682 hb) (bs_ HB hb)))); clear HO680 BK675 BK682 HB; obtain ⟨HO680, HO686, BK675, BK682, HB⟩ := n_; (try clear hb); (try clear hb2); (try clear hk); (try clear hi); (try clear ho0)) | ((with_reducible refine gate_dst (N := 11) rfl ?_); (try (refine gate_guard (by rfl) ?_; dsimp only)); refine bx_ (N := 11) (cs := #[.int .i64 0, .slice none 0 0]) (t := 24) ?_; intro gb688 hg w39 hbox hb; have n_ := a_ (rb_ HO680 hb) (a_ (rb_ HO686 hb) (a_ (bb_ BK675 hb) (a_ (bb_ BK682 hb) (a_ (bs_ HB hb) (a_ (Aside0.mk hbox) (a_ (gs_ HB hg) (a_ (gs_ HB hg) (a_ (nl_ BK675 hg) (a_ (ng_ BK675 hg) (a_ (nl_ BK682 hg) (ng_ BK682 hg))))))))))); clear HO680 HO686 BK675 BK682 HB; obtain ⟨HO680, HO686, BK675, BK682, HB, BK688, GW688, GE688, NB675_688, NB688_675, NB682_688, NB688_682⟩ := n_; clear hb hbox hg; have hnb40 := NB688_675.out; have hnc40 := NB675_688.out; have hnb41 := NB688_682.out; have hnc41 := NB682_688.out; obtain ⟨hcz42_0, hcz42_1, hfz42_0, hfz42_1⟩ := cz2_ BK688; obtain ⟨Ao43, co43, eo43⟩ := Kd.R_slice HO686.out; subst eo43; obtain ⟨hcz44_0, hcz44_1, hfz44_0, hfz44_1⟩ := cz2_ BK675) | ((with_reducible refine gate_callee (f := 25) rfl ?_); refine goesL_ (some 43) rfl rfl Try.func25 (by kernel_rfl) rfl #[.agg #[.int .i64 a0_0, .slice A0_1 l0_1.length c0_1], .int .i64 a1, .int .i64 a2, .int .i64 a3] rfl MP_ ?_; (with_reducible refine (zone_Let.calls k a0_0 _ _ l0_1 a1 a2 a3 t689 t690 t693 _ ?side1 ?side2 A9.out).mono ?_); (case side1 => exact Kd.C_below HR0_1.out HB_); (case side2 => exact HC0_1.out); rintro e w45 ⟨v691, rfl, ho0, hb⟩; refine ⟨_, rfl, ?_⟩; have n_ := a_ (Aside0.mk (Kd.R_elder' (rd_ (rf2_ HO680 BK688 (.int .i64 t683) (.slice Ao43 t684.length co43))) (Kd.R_base ho0) hb)) (a_ (Aside0.mk (Kd.R_elder' (rd_ (rf2_ HO686 BK688 (.int .i64 t683) (.slice Ao43 t684.length co43))) (Kd.R_base ho0) hb)) (a_ (Aside0.mk (Kd.R_lower (Kd.R_new' (Kd.R_new' ho0 (Kd.R_lt (rd_ (rf2_ HO680 BK688 (.int .i64 t683) (.slice Ao43 t684.length co43))))) (Kd.R_lt (rd_ (rf2_ HO686 BK688 (.int .i64 t683) (.slice Ao43 t684.length co43))))) (below_size HB_))) (a_ (bc_ #[.int .i64 a0_0, .slice A0_1 l0_1.length c0_1] 24 BK675 hb) (a_ (bc_ #[.int .i64 t677, .slice Ao36 t678.length co36] 24 BK682 hb) (a_ (bc_ #[.int .i64 t683, .slice Ao43 t684.length co43] 24 BK688 hb) (bs_ HB hb)))))); clear HO680 HO686 BK675 BK682 BK688 HB; obtain ⟨HO680, HO686, HO692, BK675, BK682, BK688, HB⟩ := n_; (try clear hb); (try clear hb2); (try clear hk); (try clear hi); (try clear ho0)) | ((with_reducible refine gate_dst (N := 13) rfl ?_); (try (refine gate_guard (by rfl) ?_; dsimp only)); refine bx_ (N := 13) (cs := #[.int .i64 0, .slice none 0 0]) (t := 24) ?_; intro gb694 hg w46 hbox hb; have n_ := a_ (rb_ HO680 hb) (a_ (rb_ HO686 hb) (a_ (rb_ HO692 hb) (a_ (bb_ BK675 hb) (a_ (bb_ BK682 hb) (a_ (bb_ BK688 hb) (a_ (bs_ HB hb) (a_ (Aside0.mk hbox) (a_ (gs_ HB hg) (a_ (gs_ HB hg) (a_ (nl_ BK675 hg) (a_ (ng_ BK675 hg) (a_ (nl_ BK682 hg) (a_ (ng_ BK682 hg) (a_ (nl_ BK688 hg) (ng_ BK688 hg))))))))))))))); clear HO680 HO686 HO692 BK675 BK682 BK688 HB; obtain ⟨HO680, HO686, HO692, BK675, BK682, BK688, HB, BK694, GW694, GE694, NB675_694, NB694_675, NB682_694, NB694_682, NB688_694, NB694_688⟩ := n_; clear hb hbox hg; have hnb47 := NB694_675.out; have hnc47 := NB675_694.out; have hnb48 := NB694_682.out; have hnc48 := NB682_694.out; have hnb49 := NB694_688.out; have hnc49 := NB688_694.out; obtain ⟨hcz50_0, hcz50_1, hfz50_0, hfz50_1⟩ := cz2_ BK694; obtain ⟨Ao51, co51, eo51⟩ := Kd.R_slice HO692.out; subst eo51; obtain ⟨hcz52_0, hcz52_1, hfz52_0, hfz52_1⟩ := cz2_ BK675) | ((with_reducible refine gate_callee (f := 26) rfl ?_); refine goesL_ (some 49) rfl rfl Try.func26 (by kernel_rfl) rfl #[.agg #[.int .i64 a0_0, .slice A0_1 l0_1.length c0_1], .int .i64 a1] rfl MP_ ?_; (with_reducible refine (zone_Itv.calls k a0_0 _ _ l0_1 a1 t695 t696 t697 _ ?side1 ?side2 A10.out).mono ?_); (case side1 => exact Kd.C_below HR0_1.out HB_); (case side2 => exact HC0_1.out); rintro e w53 ⟨rfl, hb⟩; refine ⟨_, rfl, ?_⟩; have n_ := a_ (Aside0.mk (Kd.R_below (rd_ (rf2_ HO680 BK694 (.int .i64 t689) (.slice Ao51 t690.length co51))) hb)) (a_ (Aside0.mk (Kd.R_below (rd_ (rf2_ HO686 BK694 (.int .i64 t689) (.slice Ao51 t690.length co51))) hb)) (a_ (Aside0.mk (Kd.R_below (rd_ (rf2_ HO692 BK694 (.int .i64 t689) (.slice Ao51 t690.length co51))) hb)) (a_ (bc_ #[.int .i64 a0_0, .slice A0_1 l0_1.length c0_1] 24 BK675 hb) (a_ (bc_ #[.int .i64 t677, .slice Ao36 t678.length co36] 24 BK682 hb) (a_ (bc_ #[.int .i64 t683, .slice Ao43 t684.length co43] 24 BK688 hb) (a_ (bc_ #[.int .i64 t689, .slice Ao51 t690.length co51] 24 BK694 hb) (bs_ HB hb))))))); clear HO680 HO686 HO692 BK675 BK682 BK688 BK694 HB; obtain ⟨HO680, HO686, HO692, BK675, BK682, BK688, BK694, HB⟩ := n_; (try clear hb); (try clear hb2); (try clear hk); (try clear hi)) | ((with_reducible refine gate_dst (N := 15) rfl ?_); (try (refine gate_guard (by rfl) ?_; dsimp only)); refine bx_ (N := 15) (cs := #[.int .i64 0, .int .i64 0]) (t := 39) ?_; intro gb698 hg w54 hbox hb; have n_ := a_ (rb_ HO680 hb) (a_ (rb_ HO686 hb) (a_ (rb_ HO692 hb) (a_ (bb_ BK675 hb) (a_ (bb_ BK682 hb) (a_ (bb_ BK688 hb) (a_ (bb_ BK694 hb) (a_ (bs_ HB hb) (a_ (Aside0.mk hbox) (a_ (gs_ HB hg) (a_ (gs_ HB hg) (a_ (nl_ BK675 hg) (a_ (ng_ BK675 hg) (a_ (nl_ BK682 hg) (a_ (ng_ BK682 hg) (a_ (nl_ BK688 hg) (a_ (ng_ BK688 hg) (a_ (nl_ BK694 hg) (ng_ BK694 hg)))))))))))))))))); clear HO680 HO686 HO692 BK675 BK682 BK688 BK694 HB; obtain ⟨HO680, HO686, HO692, BK675, BK682, BK688, BK694, HB, BK698, GW698, GE698, NB675_698, NB698_675, NB682_698, NB698_682, NB688_698, NB698_688, NB694_698, NB698_694⟩ := n_; clear hb hbox hg; have hnb55 := NB698_675.out; have hnc55 := NB675_698.out; have hnb56 := NB698_682.out; have hnc56 := NB682_698.out; have hnb57 := NB698_688.out; have hnc57 := NB688_698.out; have hnb58 := NB698_694.out; have hnc58 := NB694_698.out; obtain ⟨hcz59_0, hcz59_1, hfz59_0, hfz59_1⟩ := cz2_ BK698) | ((with_reducible refine gate_callee (f := 22) rfl ?_); refine goesL_ (some 52) rfl rfl Try.func22 (by kernel_rfl) rfl #[] rfl MP_ ?_; (with_reducible refine (warrantorlaw09_lives.calls k  true _ A11.out).mono ?_); rintro e w60 ⟨rfl, hb⟩; refine ⟨_, rfl, ?_⟩; have n_ := a_ (Aside0.mk (Kd.R_below (rd_ (rf2_ HO680 BK698 (.int .i64 t695) (.int .i64 t696))) hb)) (a_ (Aside0.mk (Kd.R_below (rd_ (rf2_ HO686 BK698 (.int .i64 t695) (.int .i64 t696))) hb)) (a_ (Aside0.mk (Kd.R_below (rd_ (rf2_ HO692 BK698 (.int .i64 t695) (.int .i64 t696))) hb)) (a_ (bc_ #[.int .i64 a0_0, .slice A0_1 l0_1.length c0_1] 24 BK675 hb) (a_ (bc_ #[.int .i64 t677, .slice Ao36 t678.length co36] 24 BK682 hb) (a_ (bc_ #[.int .i64 t683, .slice Ao43 t684.length co43] 24 BK688 hb) (a_ (bc_ #[.int .i64 t689, .slice Ao51 t690.length co51] 24 BK694 hb) (a_ (bc_ #[.int .i64 t695, .int .i64 t696] 39 BK698 hb) (bs_ HB hb)))))))); clear HO680 HO686 HO692 BK675 BK682 BK688 BK694 BK698 HB; obtain ⟨HO680, HO686, HO692, BK675, BK682, BK688, BK694, BK698, HB⟩ := n_; (try clear hb); (try clear hb2); (try clear hk); (try clear hi); obtain ⟨hcz61_0, hcz61_1, hfz61_0, hfz61_1⟩ := cz2_ BK675) | ((with_reducible refine gate_callee (f := 27) rfl ?_); refine goesL_ (some 55) rfl rfl Try.func27 (by kernel_rfl) rfl #[.agg #[.int .i64 a0_0, .slice A0_1 l0_1.length c0_1]] rfl MP_ ?_; (with_reducible refine (warrantorref08_Check.calls k a0_0 _ _ l0_1 true _ ?side1 ?side2 A13.out).mono ?_); (case side1 => exact sd_ (Kd.C_below HR0_1.out HB.out)); (case side2 => exact HC0_1.out); rintro e w62 ⟨rfl, hb⟩; refine ⟨_, rfl, ?_⟩; have n_ := a_ (rb_ HO680 hb) (a_ (rb_ HO686 hb) (a_ (rb_ HO692 hb) (a_ (bb_ BK675 hb) (a_ (bb_ BK682 hb) (a_ (bb_ BK688 hb) (a_ (bb_ BK694 hb) (a_ (bb_ BK698 hb) (bs_ HB hb)))))))); clear HO680 HO686 HO692 BK675 BK682 BK688 BK694 BK698 HB; obtain ⟨HO680, HO686, HO692, BK675, BK682, BK688, BK694, BK698, HB⟩ := n_; (try clear hb); (try clear hb2); (try clear hk); (try clear hi)))
  first | (obtain ⟨w62, hq_⟩ : ∃ x, x = w62.drewN nd := ⟨_, rfl⟩; rw [← hq_]; have q0_ := Aside0.mk (Kd.R_drewN HO680.out nd); rw [← hq_] at q0_; have q1_ := Aside0.mk (Kd.R_drewN HO686.out nd); rw [← hq_] at q1_; have q2_ := Aside0.mk (Kd.R_drewN HO692.out nd); rw [← hq_] at q2_; have q3_ := Aside0.mk (blk_drewN BK675.out nd); rw [← hq_] at q3_; have q4_ := Aside0.mk (blk_drewN BK682.out nd); rw [← hq_] at q4_; have q5_ := Aside0.mk (blk_drewN BK688.out nd); rw [← hq_] at q5_; have q6_ := Aside0.mk (blk_drewN BK694.out nd); rw [← hq_] at q6_; have q7_ := Aside0.mk (blk_drewN BK698.out nd); rw [← hq_] at q7_; have q8_ := Aside0.mk (pw_below_drewN HB.out nd); rw [← hq_] at q8_; clear HO680; clear HO686; clear HO692; clear BK675; clear BK682; clear BK688; clear BK694; clear BK698; clear HB; have HO680 := q0_; have HO686 := q1_; have HO692 := q2_; have BK675 := q3_; have BK682 := q4_; have BK688 := q5_; have BK694 := q6_; have BK698 := q7_; have HB := q8_; clear hq_ q0_ q1_ q2_ q3_ q4_ q5_ q6_ q7_ q8_) | skip
  have n_ := a_ (Aside0.mk (Kd.R_drew HO680.out)) (a_ (Aside0.mk (Kd.R_drew HO686.out)) (a_ (Aside0.mk (Kd.R_drew HO692.out)) (a_ (Aside0.mk (blk_drew BK675.out)) (a_ (Aside0.mk (blk_drew BK682.out)) (a_ (Aside0.mk (blk_drew BK688.out)) (a_ (Aside0.mk (blk_drew BK694.out)) (a_ (Aside0.mk (blk_drew BK698.out)) (Aside0.mk (below_drew1 HB.out)))))))))
  clear HO680 HO686 HO692 BK675 BK682 BK688 BK694 BK698 HB
  obtain ⟨HO680, HO686, HO692, BK675, BK682, BK688, BK694, BK698, HB⟩ := n_
  refine start_ (n := 12) (S := fun w' => w'.cell? ⟨gb675, 0, none⟩ = some (.int .i64 a0_0) ∧ w'.cell? ⟨gb675, 1, none⟩ = some (.slice A0_1 l0_1.length c0_1)) (ds := []) #[false, false, false, false, false, false, false, false, false, false, false, false] (by kernel_rfl) rfl rfl ⟨(blk_cell BK675.out 0).trans rfl, (blk_cell BK675.out 1).trans rfl⟩ (fun hHeld => ?_); refine with_tabW warrantorlaw09_ZoneOne_v3.tab11 warrantorlaw09_ZoneOne_v3.bits11 (fun HT_ HW_ => ?_)
  generalize w62.drew = w63 at HO680 HO686 HO692 BK675 BK682 BK688 BK694 BK698 HB hHeld ⊢
  refine pu_ 1 (some 91) ?_
  refine pu_ 4 (some 94) ?_
  refine pu_ 7 (some 97) ?_
  refine take_ (i := 0) (N := some 90) (v := ?_) (a' := ?_) #[true, true, false, false, true, false, false, true, false, false, false, false] rfl rfl (take_ofW HT_.out HW_.out (by kernel_rfl)) (fun _ _ _ h => h) (Or.inl ⟨by rfl, ?_⟩) hHeld ?_ ?_
  rotate_left
  · rintro w' ⟨s0, s1⟩
    go_simp
    with_reducible rfl
  rotate_left
  · exact AP_
  refine take_ (i := 3) (N := some 93) (v := ?_) (a' := ?_) #[true, true, false, true, true, false, false, true, false, false, false, false] rfl rfl (take_ofW HT_.out HW_.out (by kernel_rfl)) (fun _ _ _ h => h) (Or.inl ⟨by rfl, ?_⟩) hHeld ?_ ?_
  rotate_left
  · rintro w' ⟨s0, s1⟩
    go_simp
    with_reducible rfl
  rotate_left
  · exact AP_
  refine take_ (i := 6) (N := some 96) (v := ?_) (a' := ?_) #[true, true, false, true, true, false, true, true, false, false, false, false] rfl rfl (take_ofW HT_.out HW_.out (by kernel_rfl)) (fun _ _ _ h => h) (Or.inl ⟨by rfl, ?_⟩) hHeld ?_ ?_
  rotate_left
  · rintro w' ⟨s0, s1⟩
    go_simp
    with_reducible rfl
  rotate_left
  · exact AP_
  refine on_ 2 (some 92) (fun K hK => ?_)
  refine goes_ Try.func28 (by kernel_rfl) rfl #[.agg #[.int .i64 a0_0, .slice A0_1 l0_1.length c0_1], .int .i64 a1] (by rfl) rfl rfl MP_ ?_
  with_reducible refine (warrantorref09_Var.calls a0_0 _ _ l0_1 a1 false _ ?side1 ?side2 A15.out).mono ?_
  (case side1 => exact sd_ (Kd.C_below HR0_1.out HB.out))
  (case side2 => exact HC0_1.out)
  rintro e w64 ⟨rfl, hb⟩
  refine ⟨_, rfl, ?_⟩
  have n_ := a_ (rb_ HO680 hb) (a_ (rb_ HO686 hb) (a_ (rb_ HO692 hb) (a_ (bb_ BK675 hb) (a_ (bb_ BK682 hb) (a_ (bb_ BK688 hb) (a_ (bb_ BK694 hb) (a_ (bb_ BK698 hb) (bs_ HB hb))))))))
  clear HO680 HO686 HO692 BK675 BK682 BK688 BK694 BK698 HB
  obtain ⟨HO680, HO686, HO692, BK675, BK682, BK688, BK694, BK698, HB⟩ := n_
  (try clear hb)
  (try clear hb2)
  (try clear hk)
  (try clear hi)
  refine hK.out _ _ ⟨(blk_cell BK675.out 0).trans rfl, (blk_cell BK675.out 1).trans rfl⟩ (fun hHeld => ?_)
  clear hK K
  refine nm_ ?_
  refine on_ 5 (some 95) (fun K hK => ?_)
  refine goes_ Try.func29 (by kernel_rfl) rfl #[.agg #[.int .i64 a0_0, .slice A0_1 l0_1.length c0_1], .int .i64 a1] (by rfl) rfl rfl MP_ ?_
  with_reducible refine (warrantorref09_Or0.calls a0_0 _ _ l0_1 a1 true _ ?side1 ?side2 A16.out).mono ?_
  (case side1 => exact sd_ (Kd.C_below HR0_1.out HB.out))
  (case side2 => exact HC0_1.out)
  rintro e w65 ⟨rfl, hb⟩
  refine ⟨_, rfl, ?_⟩
  have n_ := a_ (rb_ HO680 hb) (a_ (rb_ HO686 hb) (a_ (rb_ HO692 hb) (a_ (bb_ BK675 hb) (a_ (bb_ BK682 hb) (a_ (bb_ BK688 hb) (a_ (bb_ BK694 hb) (a_ (bb_ BK698 hb) (bs_ HB hb))))))))
  clear HO680 HO686 HO692 BK675 BK682 BK688 BK694 BK698 HB
  obtain ⟨HO680, HO686, HO692, BK675, BK682, BK688, BK694, BK698, HB⟩ := n_
  (try clear hb)
  (try clear hb2)
  (try clear hk)
  (try clear hi)
  refine hK.out _ _ ⟨(blk_cell BK675.out 0).trans rfl, (blk_cell BK675.out 1).trans rfl⟩ (fun hHeld => ?_)
  clear hK K
  refine nm_ ?_
  refine on_ 8 (some 98) (fun K hK => ?_)
  refine goes_ Try.func29 (by kernel_rfl) rfl #[.agg #[.int .i64 a0_0, .slice A0_1 l0_1.length c0_1], .int .i64 a2] (by rfl) rfl rfl MP_ ?_
  with_reducible refine (warrantorref09_Or0.calls a0_0 _ _ l0_1 a2 true _ ?side1 ?side2 A17.out).mono ?_
  (case side1 => exact sd_ (Kd.C_below HR0_1.out HB.out))
  (case side2 => exact HC0_1.out)
  rintro e w66 ⟨rfl, hb⟩
  refine ⟨_, rfl, ?_⟩
  have n_ := a_ (rb_ HO680 hb) (a_ (rb_ HO686 hb) (a_ (rb_ HO692 hb) (a_ (bb_ BK675 hb) (a_ (bb_ BK682 hb) (a_ (bb_ BK688 hb) (a_ (bb_ BK694 hb) (a_ (bb_ BK698 hb) (bs_ HB hb))))))))
  clear HO680 HO686 HO692 BK675 BK682 BK688 BK694 BK698 HB
  obtain ⟨HO680, HO686, HO692, BK675, BK682, BK688, BK694, BK698, HB⟩ := n_
  (try clear hb)
  (try clear hb2)
  (try clear hk)
  (try clear hi)
  refine hK.out _ _ ⟨(blk_cell BK675.out 0).trans rfl, (blk_cell BK675.out 1).trans rfl⟩ (fun hHeld => ?_)
  clear hK K
  refine nm_ ?_
  refine pu_ 9 (some 17) ?_
  refine pu_ 10 (some 18) ?_
  refine pu_ 11 (some 19) ?_
  refine done_ (done_of HT_.out (by kernel_rfl)) ?_
  try go_wp2
  first | (obtain ⟨w66, hq_⟩ : ∃ x, x = w66.drewN nd := ⟨_, rfl⟩; rw [← hq_]; have q0_ := Aside0.mk (Kd.R_drewN HO680.out nd); rw [← hq_] at q0_; have q1_ := Aside0.mk (Kd.R_drewN HO686.out nd); rw [← hq_] at q1_; have q2_ := Aside0.mk (Kd.R_drewN HO692.out nd); rw [← hq_] at q2_; have q3_ := Aside0.mk (blk_drewN BK675.out nd); rw [← hq_] at q3_; have q4_ := Aside0.mk (blk_drewN BK682.out nd); rw [← hq_] at q4_; have q5_ := Aside0.mk (blk_drewN BK688.out nd); rw [← hq_] at q5_; have q6_ := Aside0.mk (blk_drewN BK694.out nd); rw [← hq_] at q6_; have q7_ := Aside0.mk (blk_drewN BK698.out nd); rw [← hq_] at q7_; have q8_ := Aside0.mk (pw_below_drewN HB.out nd); rw [← hq_] at q8_; clear HO680; clear HO686; clear HO692; clear BK675; clear BK682; clear BK688; clear BK694; clear BK698; clear HB; have HO680 := q0_; have HO686 := q1_; have HO692 := q2_; have BK675 := q3_; have BK682 := q4_; have BK688 := q5_; have BK694 := q6_; have BK698 := q7_; have HB := q8_; clear hq_ q0_ q1_ q2_ q3_ q4_ q5_ q6_ q7_ q8_) | skip
  have n_ := a_ (Aside0.mk (Kd.R_drew HO680.out)) (a_ (Aside0.mk (Kd.R_drew HO686.out)) (a_ (Aside0.mk (Kd.R_drew HO692.out)) (a_ (Aside0.mk (blk_drew BK675.out)) (a_ (Aside0.mk (blk_drew BK682.out)) (a_ (Aside0.mk (blk_drew BK688.out)) (a_ (Aside0.mk (blk_drew BK694.out)) (a_ (Aside0.mk (blk_drew BK698.out)) (Aside0.mk (below_drew1 HB.out)))))))))
  clear HO680 HO686 HO692 BK675 BK682 BK688 BK694 BK698 HB
  obtain ⟨HO680, HO686, HO692, BK675, BK682, BK688, BK694, BK698, HB⟩ := n_
  refine start_ (n := 16) (S := fun w' => w'.cell? ⟨gb698, 0, none⟩ = some (.int .i64 t695) ∧ w'.cell? ⟨gb698, 1, none⟩ = some (.int .i64 t696) ∧ w'.cell? ⟨gb675, 0, none⟩ = some (.int .i64 a0_0) ∧ w'.cell? ⟨gb675, 1, none⟩ = some (.slice A0_1 l0_1.length c0_1)) (ds := []) #[false, false, false, false, false, false, false, false, false, false, false, false, false, false, false, false] (by kernel_rfl) rfl rfl ⟨(blk_cell BK698.out 0).trans rfl, (blk_cell BK698.out 1).trans rfl, (blk_cell BK675.out 0).trans rfl, (blk_cell BK675.out 1).trans rfl⟩ (fun hHeld => ?_); refine with_tabW warrantorlaw09_ZoneOne_v3.tab16 warrantorlaw09_ZoneOne_v3.bits16 (fun HT_ HW_ => ?_)
  generalize w66.drew = w67 at HO680 HO686 HO692 BK675 BK682 BK688 BK694 BK698 HB hHeld ⊢
  refine pu_ 2 (some 145) ?_
  refine take_ (i := 0) (N := some 143) (v := ?_) (a' := ?_) #[true, false, true, false, false, false, false, false, false, false, false, false, false, false, false, false] rfl rfl (take_ofW HT_.out HW_.out (by kernel_rfl)) (fun _ _ _ h => h) (Or.inl ⟨by rfl, ?_⟩) hHeld ?_ ?_
  rotate_left
  · rintro w' ⟨s0, s1, s2, s3⟩
    go_simp
    with_reducible rfl
  rotate_left
  · exact AP_
  refine take_ (i := 1) (N := some 144) (v := ?_) (a' := ?_) #[true, true, true, false, false, false, false, false, false, false, false, false, false, false, false, false] rfl rfl (take_ofW HT_.out HW_.out (by kernel_rfl)) (fun _ _ _ h => h) (Or.inl ⟨by rfl, ?_⟩) hHeld ?_ ?_
  rotate_left
  · rintro w' ⟨s0, s1, s2, s3⟩
    go_simp
    with_reducible rfl
  rotate_left
  · exact AP_
  refine on_ 3 (some 146) (fun K hK => ?_)
  refine goes_ Try.func30 (by kernel_rfl) rfl #[.agg #[.int .i64 a0_0, .slice A0_1 l0_1.length c0_1], .int .i64 a1] (by rfl) rfl rfl MP_ ?_
  with_reducible refine (warrantorref09_Itv.calls a0_0 _ _ l0_1 a1 t704 t705 _ ?side1 ?side2 A24.out).mono ?_
  (case side1 => exact sd_ (Kd.C_below HR0_1.out HB.out))
  (case side2 => exact HC0_1.out)
  rintro e w68 ⟨rfl, hb⟩
  refine ⟨_, rfl, ?_⟩
  have n_ := a_ (rb_ HO680 hb) (a_ (rb_ HO686 hb) (a_ (rb_ HO692 hb) (a_ (bb_ BK675 hb) (a_ (bb_ BK682 hb) (a_ (bb_ BK688 hb) (a_ (bb_ BK694 hb) (a_ (bb_ BK698 hb) (bs_ HB hb))))))))
  clear HO680 HO686 HO692 BK675 BK682 BK688 BK694 BK698 HB
  obtain ⟨HO680, HO686, HO692, BK675, BK682, BK688, BK694, BK698, HB⟩ := n_
  (try clear hb)
  (try clear hb2)
  (try clear hk)
  (try clear hi)
  refine hK.out _ _ ⟨(blk_cell BK698.out 0).trans rfl, (blk_cell BK698.out 1).trans rfl, (blk_cell BK675.out 0).trans rfl, (blk_cell BK675.out 1).trans rfl⟩ (fun hHeld => ?_)
  clear hK K
  refine nm_ ?_
  refine pu_ 4 (some 147) ?_
  refine pu_ 5 (some 148) ?_
  refine pu_ 6 (some 149) ?_
  refine pu_ 7 (some 150) ?_
  refine pv_ 8 (some 151) ?_
  refine pv_ 9 (some 152) ?_
  refine pv_ 10 (some 153) ?_
  refine pv_ 11 (some 154) ?_
  refine pv_ 12 (some 155) ?_
  refine pv_ 13 (some 156) ?_
  refine pu_ 14 (some 157) ?_
  refine pu_ 15 (some 158) ?_
  refine done_ (done_of HT_.out (by kernel_rfl)) ?_
  try go_wp2
  first | (obtain ⟨w68, hq_⟩ : ∃ x, x = w68.drewN nd := ⟨_, rfl⟩; rw [← hq_]; have q0_ := Aside0.mk (Kd.R_drewN HO680.out nd); rw [← hq_] at q0_; have q1_ := Aside0.mk (Kd.R_drewN HO686.out nd); rw [← hq_] at q1_; have q2_ := Aside0.mk (Kd.R_drewN HO692.out nd); rw [← hq_] at q2_; have q3_ := Aside0.mk (blk_drewN BK675.out nd); rw [← hq_] at q3_; have q4_ := Aside0.mk (blk_drewN BK682.out nd); rw [← hq_] at q4_; have q5_ := Aside0.mk (blk_drewN BK688.out nd); rw [← hq_] at q5_; have q6_ := Aside0.mk (blk_drewN BK694.out nd); rw [← hq_] at q6_; have q7_ := Aside0.mk (blk_drewN BK698.out nd); rw [← hq_] at q7_; have q8_ := Aside0.mk (pw_below_drewN HB.out nd); rw [← hq_] at q8_; clear HO680; clear HO686; clear HO692; clear BK675; clear BK682; clear BK688; clear BK694; clear BK698; clear HB; have HO680 := q0_; have HO686 := q1_; have HO692 := q2_; have BK675 := q3_; have BK682 := q4_; have BK688 := q5_; have BK694 := q6_; have BK698 := q7_; have HB := q8_; clear hq_ q0_ q1_ q2_ q3_ q4_ q5_ q6_ q7_ q8_) | skip
  have n_ := a_ (Aside0.mk (Kd.R_drew HO680.out)) (a_ (Aside0.mk (Kd.R_drew HO686.out)) (a_ (Aside0.mk (Kd.R_drew HO692.out)) (a_ (Aside0.mk (blk_drew BK675.out)) (a_ (Aside0.mk (blk_drew BK682.out)) (a_ (Aside0.mk (blk_drew BK688.out)) (a_ (Aside0.mk (blk_drew BK694.out)) (a_ (Aside0.mk (blk_drew BK698.out)) (Aside0.mk (below_drew1 HB.out)))))))))
  clear HO680 HO686 HO692 BK675 BK682 BK688 BK694 BK698 HB
  obtain ⟨HO680, HO686, HO692, BK675, BK682, BK688, BK694, BK698, HB⟩ := n_
  refine start_ (n := 29) (S := fun w' => w'.cell? ⟨gb682, 0, none⟩ = some (.int .i64 t677) ∧ w'.cell? ⟨gb682, 1, none⟩ = some (.slice Ao36 t678.length co36) ∧ w'.cell? ⟨gb675, 0, none⟩ = some (.int .i64 a0_0) ∧ w'.cell? ⟨gb675, 1, none⟩ = some (.slice A0_1 l0_1.length c0_1)) (ds := []) #[false, false, false, false, false, false, false, false, false, false, false, false, false, false, false, false, false, false, false, false, false, false, false, false, false, false, false, false, false] (by kernel_rfl) rfl rfl ⟨(blk_cell BK682.out 0).trans rfl, (blk_cell BK682.out 1).trans rfl, (blk_cell BK675.out 0).trans rfl, (blk_cell BK675.out 1).trans rfl⟩ (fun hHeld => ?_); refine with_tabW warrantorlaw09_ZoneOne_v3.tab18 warrantorlaw09_ZoneOne_v3.bits18 (fun HT_ HW_ => ?_)
  generalize w68.drew = w69 at HO680 HO686 HO692 BK675 BK682 BK688 BK694 BK698 HB hHeld ⊢
  refine pu_ 0 (some 159) ?_
  refine pu_ 1 (some 160) ?_
  refine pu_ 2 (some 161) ?_
  refine pu_ 5 (some 164) ?_
  refine pu_ 6 (some 165) ?_
  refine pu_ 7 (some 166) ?_
  refine take_ (i := 3) (N := some 162) (v := ?_) (a' := ?_) #[true, true, true, true, false, true, true, true, false, false, false, false, false, false, false, false, false, false, false, false, false, false, false, false, false, false, false, false, false] rfl rfl (take_ofW HT_.out HW_.out (by kernel_rfl)) (fun _ _ _ h => h) (Or.inl ⟨by rfl, ?_⟩) hHeld ?_ ?_
  rotate_left
  · rintro w' ⟨s0, s1, s2, s3⟩
    go_simp
    with_reducible rfl
  rotate_left
  · exact AP_
  refine take_ (i := 4) (N := some 163) (v := ?_) (a' := ?_) #[true, true, true, true, true, true, true, true, false, false, false, false, false, false, false, false, false, false, false, false, false, false, false, false, false, false, false, false, false] rfl rfl (take_ofW HT_.out HW_.out (by kernel_rfl)) (fun _ _ _ h => h) (Or.inl ⟨by rfl, ?_⟩) hHeld ?_ ?_
  rotate_left
  · rintro w' ⟨s0, s1, s2, s3⟩
    go_simp
    with_reducible rfl
  rotate_left
  · exact AP_
  refine on_ 8 (some 167) (fun K hK => ?_)
  refine goes_ Try.func32 (by kernel_rfl) rfl #[.agg #[.int .i64 a0_0, .slice A0_1 l0_1.length c0_1], .int .i64 a1, .int .i64 a2, .int .i64 a3] (by rfl) rfl rfl MP_ ?_
  with_reducible refine (warrantorref09_Limit.calls k a0_0 (fun k_ => k_ < w.heap.size) _ _ l0_1 a1 a2 a3 t706 t707 _ ?side1 A27.out).mono ?_
  (case side1 => exact Kd.V_mk HC0_1.out (Kd.F_below (Kd.C_F (Kd.heap_int .i64) HR0_1.out) HB_))
  rintro e w70 ⟨v708, rfl, ho0, hb⟩
  refine ⟨_, rfl, ?_⟩
  have n_ := a_ (rb_ HO680 hb) (a_ (rb_ HO686 hb) (a_ (rb_ HO692 hb) (a_ (Aside0.mk (Kd.V_lower (Kd.V_mono (ok' := fun k_ => some k_ ≠ (.slice Ao36 t678.length co36 : Value).ownBlock ∧ some k_ ≠ (.slice Ao43 t684.length co43 : Value).ownBlock ∧ some k_ ≠ (.slice Ao51 t690.length co51 : Value).ownBlock ∧ k_ ≠ gb675 ∧ k_ ≠ gb682 ∧ k_ ≠ gb688 ∧ k_ ≠ gb694 ∧ k_ ≠ gb698) ho0 (fun k_ hk_ => ⟨Or.elim hk_ (fun hs_ => fun e_ => Nat.not_le.2 hs_ (Kd.R_base HO680.out k_ e_.symm)) (fun hn_ => (Kd.fresh' (Kd.R_lt (rd_ HO680.out)) k_ hn_)), Or.elim hk_ (fun hs_ => fun e_ => Nat.not_le.2 hs_ (Kd.R_base HO686.out k_ e_.symm)) (fun hn_ => (Kd.fresh' (Kd.R_lt (rd_ HO686.out)) k_ hn_)), Or.elim hk_ (fun hs_ => fun e_ => Nat.not_le.2 hs_ (Kd.R_base HO692.out k_ e_.symm)) (fun hn_ => (Kd.fresh' (Kd.R_lt (rd_ HO692.out)) k_ hn_)), Or.elim hk_ (fun hs_ => fun e_ => Nat.not_le.2 hs_ (by rw [e_]; exact GW675.out)) (fun hn_ => (Kd.freshB (g := gb675) (o := .cells #[.int .i64 a0_0, .slice A0_1 l0_1.length c0_1] 24 (0, 0)) (bk_ BK675.out) k_ hn_)), Or.elim hk_ (fun hs_ => fun e_ => Nat.not_le.2 hs_ (by rw [e_]; exact GW682.out)) (fun hn_ => (Kd.freshB (g := gb682) (o := .cells #[.int .i64 t677, .slice Ao36 t678.length co36] 24 (0, 0)) (bk_ BK682.out) k_ hn_)), Or.elim hk_ (fun hs_ => fun e_ => Nat.not_le.2 hs_ (by rw [e_]; exact GW688.out)) (fun hn_ => (Kd.freshB (g := gb688) (o := .cells #[.int .i64 t683, .slice Ao43 t684.length co43] 24 (0, 0)) (bk_ BK688.out) k_ hn_)), Or.elim hk_ (fun hs_ => fun e_ => Nat.not_le.2 hs_ (by rw [e_]; exact GW694.out)) (fun hn_ => (Kd.freshB (g := gb694) (o := .cells #[.int .i64 t689, .slice Ao51 t690.length co51] 24 (0, 0)) (bk_ BK694.out) k_ hn_)), Or.elim hk_ (fun hs_ => fun e_ => Nat.not_le.2 hs_ (by rw [e_]; exact GW698.out)) (fun hn_ => (Kd.freshB (g := gb698) (o := .cells #[.int .i64 t695, .int .i64 t696] 39 (0, 0)) (bk_ BK698.out) k_ hn_))⟩)) (below_size HB_))) (a_ (bb_ BK675 hb) (a_ (bb_ BK682 hb) (a_ (bb_ BK688 hb) (a_ (bb_ BK694 hb) (a_ (bb_ BK698 hb) (bs_ HB hb)))))))))
  clear HO680 HO686 HO692 BK675 BK682 BK688 BK694 BK698 HB
  obtain ⟨HO680, HO686, HO692, HO709, BK675, BK682, BK688, BK694, BK698, HB⟩ := n_
  (try clear hb)
  (try clear hb2)
  (try clear hk)
  (try clear hi)
  (try clear ho0)
  obtain ⟨Ao71, co71, eo71⟩ := Kd.V_slice HO709.out
  (first | subst eo71 | (injection eo71 with f1_ f2_ f3_; have f4_ := f1_.symm; have f5_ := f3_.symm; clear f1_ f2_ f3_; subst f4_; subst f5_))
  refine hK.out _ _ ⟨(blk_cell BK682.out 0).trans rfl, (blk_cell BK682.out 1).trans rfl, (blk_cell BK675.out 0).trans rfl, (blk_cell BK675.out 1).trans rfl⟩ (fun hHeld => ?_)
  clear hK K
  refine nm_ ?_
  refine on_ 9 (some 168) (fun K hK => ?_)
  refine goes_ Try.func17 (by kernel_rfl) rfl #[.agg #[.int .i64 t677, .slice Ao36 t678.length co36], .agg #[.int .i64 t706, .slice Ao71 t707.length co71]] (by rfl) rfl rfl MP_ ?_
  with_reducible refine (warrantorref08_Same.calls k t677 _ _ t678 t706 _ _ t707 true _ ?side1 ?side2 ?side3 ?side4 A28.out).mono ?_
  (case side1 => repeat (first | exact (Kd.R_reads' HO680.out).2.2 | (with_reducible refine Kd.C_alloc ?_ _) | (with_reducible refine Kd.C_drewN ?_ _) | (with_reducible refine Kd.C_drew ?_)))
  (case side2 => exact (Kd.R_reads' HO680.out).2.1)
  (case side3 => repeat (first | exact (Kd.V_reads' HO709.out).2.2 | (with_reducible refine Kd.C_alloc ?_ _) | (with_reducible refine Kd.C_drewN ?_ _) | (with_reducible refine Kd.C_drew ?_)))
  (case side4 => exact (Kd.V_reads' HO709.out).2.1)
  rintro e w72 ⟨rfl, hb⟩
  refine ⟨_, rfl, ?_⟩
  have n_ := a_ (rb_ HO680 hb) (a_ (rb_ HO686 hb) (a_ (rb_ HO692 hb) (a_ (Aside0.mk (Kd.V_below (by (with_reducible repeat (first | apply Kd.V_alloc | apply Kd.V_drewN | apply Kd.V_drew)); exact HO709.out) hb)) (a_ (bb_ BK675 hb) (a_ (bb_ BK682 hb) (a_ (bb_ BK688 hb) (a_ (bb_ BK694 hb) (a_ (bb_ BK698 hb) (bs_ HB hb)))))))))
  clear HO680 HO686 HO692 HO709 BK675 BK682 BK688 BK694 BK698 HB
  obtain ⟨HO680, HO686, HO692, HO709, BK675, BK682, BK688, BK694, BK698, HB⟩ := n_
  (try clear hb)
  (try clear hb2)
  (try clear hk)
  (try clear hi)
  refine hK.out _ _ ⟨(blk_cell BK682.out 0).trans rfl, (blk_cell BK682.out 1).trans rfl, (blk_cell BK675.out 0).trans rfl, (blk_cell BK675.out 1).trans rfl⟩ (fun hHeld => ?_)
  clear hK K
  refine nm_ ?_
  refine pu_ 10 (some 169) ?_
  refine pu_ 11 (some 170) ?_
  refine pu_ 12 (some 171) ?_
  refine pu_ 13 (some 172) ?_
  refine pu_ 14 (some 173) ?_
  refine pu_ 15 (some 174) ?_
  refine pu_ 16 (some 175) ?_
  refine pu_ 17 (some 176) ?_
  refine pu_ 18 (some 177) ?_
  refine pv_ 19 (some 178) ?_
  refine pv_ 20 (some 179) ?_
  refine pv_ 21 (some 180) ?_
  refine pv_ 22 (some 181) ?_
  refine pv_ 23 (some 182) ?_
  refine pv_ 24 (some 183) ?_
  refine pv_ 25 (some 184) ?_
  refine pu_ 26 (some 185) ?_
  refine pu_ 27 (some 186) ?_
  refine pu_ 28 (some 8) ?_
  refine done_ (done_of HT_.out (by kernel_rfl)) ?_
  try go_wp2
  go_ret
  exact ⟨by first | rfl | (simp [errW_none, errW_some] <;> rfl) | (simp [*, errW_none, errW_some] <;> rfl), HB_⟩
end Go.Proofs.Ytgeemdpflcefkaa.Z

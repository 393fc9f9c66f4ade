-- WRITTEN BY this session's program wip/ext.py, in print.py's manner
import Derived.Test.YtgeemdpflcefkaaZx0
import Derived.Test.YtgeemdpflcefkaaZx1
import Derived.Test.YtgeemdpflcefkaaZx3
import Derived.Test.YtgeemdpflcefkaaZx15
import Derived.Test.YtgeemdpflcefkaaZx16
import Derived.Test.YtgeemdpflcefkaaZx17
import Derived.Test.YtgeemdpflcefkaaZx19
import Derived.Test.YtgeemdpflcefkaaZx33
import Derived.Test.YtgeemdpflcefkaaZx35
import Derived.Test.YtgeemdpflcefkaaZx39
namespace Go.Proofs.Ytgeemdpflcefkaa.Z
open Go.RowKit Go.Proofs.YtgeemdpflcefkaaW.PrintWords Go.Proofs.YtgeemdpflcefkaaW.PrintLast Go.Proofs.YtgeemdpflcefkaaW.PrintMore
attribute [local go_sem] max2_int min2_int max_two min_two max_three min_three max_four min_four   -- for this text's walks alone
set_option linter.unusedVariables false
set_option linter.unusedSimpArgs false

attribute [local go_sem high] eqA39
/-! ### warrantorlaw09_ZoneOne_v2: function 4 -/
def warrantorlaw09_ZoneOne_v2.f (k : Nat) (a0_0 : Int) (l0_1 : List Int) (a1 : Int) (a2 : Int) (a3 : Int) : Option (Bool) := (warrantorref08_Large.f l0_1).bind fun t640 => (if t640 = true then (none) else ((zone_Limit.f k a0_0 l0_1 a1 a2 a3).bind fun bt641 => ((zone_Forget.f k a0_0 l0_1 a1).bind fun bt647 => ((zone_Let.f k a0_0 l0_1 a1 a2 a3).bind fun bt653 => ((zone_Itv.f k a0_0 l0_1 a1).bind fun bt659 => ((warrantorlaw09_lives.f k).bind fun t663 => (if t663 = true then ((warrantorref08_Check.f k a0_0 l0_1).bind fun t664 => (if t664 = true then ((warrantorref09_Var.f a0_0 l0_1 a1).bind fun t665 => ((warrantorref09_Or0.f a0_0 l0_1 a1).bind fun t666 => ((warrantorref09_Or0.f a0_0 l0_1 a2).bind fun t667 => (if t666 = true then (if ((bt641.2.2 == 0) != t667) = true then (none) else (if ((bt647.2.2 == 0) != t665) = true then (none) else (if t665 = true then (if ((bt653.2.2 == 0) != t667) = true then (none) else (if ((bt659.2.2 == 0) != t666) = true then (none) else ((warrantorref09_Itv.f a0_0 l0_1 a1).bind fun bt668 => (if (!(bt659.1 == bt668.1) || (!(bt659.2.1 == bt668.2))) = true then (none) else ((warrantorref09_Forget.f k a0_0 l0_1 a1).bind fun bt670 => ((warrantorref08_Same.f k bt647.1 bt647.2.1 bt670.1 bt670.2).bind fun t674 => (if t674 = true then (if t667 = true then (none) else (some true)) else (none)))))))) else (none)))) else (none))))) else (none))) else (none))))))))
theorem warrantorlaw09_ZoneOne_v2.mono : ∀ a0 a1 a2 a3 a4 k, LeO (warrantorlaw09_ZoneOne_v2.f k a0 a1 a2 a3 a4) (warrantorlaw09_ZoneOne_v2.f (k + 1) a0 a1 a2 a3 a4) := by
  intro a0 a1 a2 a3 a4 k
  unfold warrantorlaw09_ZoneOne_v2.f
  repeat' first
      | (with_reducible exact warrantorlaw09_lives.mono _)
      | (with_reducible exact warrantorref08_Check.mono _ _ _)
      | (with_reducible exact warrantorref08_Same.mono _ _ _ _ _)
      | (with_reducible exact warrantorref09_Forget.mono _ _ _ _)
      | (with_reducible exact zone_Forget.mono _ _ _ _)
      | (with_reducible exact zone_Itv.mono _ _ _ _)
      | (with_reducible exact zone_Let.mono _ _ _ _ _ _)
      | (with_reducible exact zone_Limit.mono _ _ _ _ _ _)
      | (with_reducible exact LeO.refl _)
      | (with_reducible exact LeO.none _)
      | (with_reducible refine LeO.ite ?_ ?_)
      | (with_reducible refine LeO.bind ?_ (fun _ => ?_))
      | exact warrantorlaw09_lives.mono _
      | exact warrantorref08_Check.mono _ _ _
      | exact warrantorref08_Same.mono _ _ _ _ _
      | exact warrantorref09_Forget.mono _ _ _ _
      | exact zone_Forget.mono _ _ _ _
      | exact zone_Itv.mono _ _ _ _
      | exact zone_Let.mono _ _ _ _ _ _
      | exact zone_Limit.mono _ _ _ _ _ _
      | exact LeO.none _
      | refine LeO.ite ?_ ?_
      | refine LeO.bind ?_ (fun _ => ?_)
def warrantorlaw09_ZoneOne_v2.T11 : Bool × List (List Nat × List Nat) := (true, [([], []), ([], []), ([0, 1], [0, 1]), ([], []), ([], []), ([3, 4, 2], [3, 4]), ([], []), ([], []), ([6, 7, 5], [6, 7]), ([2, 8, 0, 1, 2], [2]), ([5, 9, 0, 1, 2, 3, 4, 5, 9], [5]), ([8, 10, 0, 1, 2, 3, 4, 5, 6, 7, 8, 9, 10], [8])])
def warrantorlaw09_ZoneOne_v2.B11 : List Nat := [0, 0, 3, 0, 0, 31, 0, 0, 255, 511, 1023, 2047]
theorem warrantorlaw09_ZoneOne_v2.tab11 : rtab .any (opsOf Try.f4 11) = warrantorlaw09_ZoneOne_v2.T11 := by kernel_rfl
theorem warrantorlaw09_ZoneOne_v2.bits11 : waitsOk warrantorlaw09_ZoneOne_v2.T11.2 warrantorlaw09_ZoneOne_v2.B11 = true := by kernel_rfl
def warrantorlaw09_ZoneOne_v2.T16 : Bool × List (List Nat × List Nat) := (true, [([], []), ([], []), ([], []), ([1, 2], [1, 2]), ([0, 3], [0, 3]), ([4, 3], [4]), ([5], [5]), ([6, 5, 5], [5, 6]), ([7], [7]), ([7], [7]), ([7], [7]), ([9, 10, 7, 7], [7, 9, 10]), ([8, 11, 11, 7], [7, 8, 11]), ([12, 7], [7, 12]), ([7, 13, 5], [5, 7, 13]), ([5, 14], [5, 14])])
def warrantorlaw09_ZoneOne_v2.B16 : List Nat := [0, 0, 0, 6, 15, 31, 63, 127, 255, 255, 255, 1791, 4095, 8191, 16383, 32767]
theorem warrantorlaw09_ZoneOne_v2.tab16 : rtab .any (opsOf Try.f4 16) = warrantorlaw09_ZoneOne_v2.T16 := by kernel_rfl
theorem warrantorlaw09_ZoneOne_v2.bits16 : waitsOk warrantorlaw09_ZoneOne_v2.T16.2 warrantorlaw09_ZoneOne_v2.B16 = true := by kernel_rfl
def warrantorlaw09_ZoneOne_v2.T18 : Bool × List (List Nat × List Nat) := (true, [([], []), ([0], [0]), ([1], [1]), ([2], [2]), ([2], [2]), ([2], [2]), ([2], [2]), ([2], [2]), ([4, 5, 6, 7, 2, 2], [2, 4, 5, 6, 7]), ([3, 8, 8, 2], [2, 3, 8]), ([2, 9], [2, 9]), ([10, 9], [10]), ([11], [11]), ([12, 11], [11, 12]), ([13, 11, 11], [11, 13]), ([14], [14]), ([15, 14], [14, 15]), ([14, 16, 11], [11, 14, 16]), ([17, 14, 11], [11, 17]), ([18], [18]), ([18], [18]), ([18], [18]), ([18], [18]), ([18], [18]), ([20, 21, 22, 23, 18, 18], [18, 20, 21, 22, 23]), ([19, 24, 24, 18], [18, 19, 24]), ([18, 25, 11], [11, 18, 25]), ([11, 26], [11, 26]), ([27, 25, 0, 1, 2, 3, 4, 5, 6, 7, 8, 9, 10, 11, 12, 13, 14, 15, 16, 17, 18, 19, 20, 21, 22, 23, 24, 25, 26, 27], [27])])
def warrantorlaw09_ZoneOne_v2.B18 : List Nat := [0, 1, 3, 7, 7, 7, 7, 7, 247, 511, 1023, 2047, 4095, 8191, 16383, 32767, 65535, 131071, 262143, 524287, 524287, 524287, 524287, 524287, 16252927, 33554431, 67108863, 134217727, 268435455]
theorem warrantorlaw09_ZoneOne_v2.tab18 : rtab .any (opsOf Try.f4 18) = warrantorlaw09_ZoneOne_v2.T18 := by kernel_rfl
theorem warrantorlaw09_ZoneOne_v2.bits18 : waitsOk warrantorlaw09_ZoneOne_v2.T18.2 warrantorlaw09_ZoneOne_v2.B18 = true := by kernel_rfl
set_option maxHeartbeats 8000000 in
set_option maxRecDepth 100000 in
theorem warrantorlaw09_ZoneOne_v2.calls (k : Nat) (a0_0 : Int) (A0_1 : Option Addr) (c0_1 : Nat) (l0_1 : List Int) (a1 : Int) (a2 : Int) (a3 : Int) (r : Bool) (w : World) (hr0_1 : Kd.C (Kd.int .i64) w A0_1 l0_1.length l0_1) (hc0_1 : l0_1.length ≤ c0_1) (h : warrantorlaw09_ZoneOne_v2.f k a0_0 l0_1 a1 a2 a3 = some r) :
    Calls Try.prog 4 #[.agg #[.int .i64 a0_0, .slice A0_1 l0_1.length c0_1], .int .i64 a1, .int .i64 a2, .int .i64 a3] w fun e w' => e = .returned (.bool r) ∧ Below w.heap.size w w' := by
  have hu24 := Try.underlying24
  have hu39 := Try.underlying39
  have HR0_1 := Aside0.mk hr0_1
  have HC0_1 := Aside0.mk hc0_1
  clear hr0_1 hc0_1
  have HB := Aside0.mk (Below.refl w.heap.size w)
  have H : ((warrantorref08_Large.f l0_1).bind fun t640 => (if t640 = true then (none) else ((zone_Limit.f k a0_0 l0_1 a1 a2 a3).bind fun bt641 => ((zone_Forget.f k a0_0 l0_1 a1).bind fun bt647 => ((zone_Let.f k a0_0 l0_1 a1 a2 a3).bind fun bt653 => ((zone_Itv.f k a0_0 l0_1 a1).bind fun bt659 => ((warrantorlaw09_lives.f k).bind fun t663 => (if t663 = true then ((warrantorref08_Check.f k a0_0 l0_1).bind fun t664 => (if t664 = true then ((warrantorref09_Var.f a0_0 l0_1 a1).bind fun t665 => ((warrantorref09_Or0.f a0_0 l0_1 a1).bind fun t666 => ((warrantorref09_Or0.f a0_0 l0_1 a2).bind fun t667 => (if t666 = true then (if ((bt641.2.2 == 0) != t667) = true then (none) else (if ((bt647.2.2 == 0) != t665) = true then (none) else (if t665 = true then (if ((bt653.2.2 == 0) != t667) = true then (none) else (if ((bt659.2.2 == 0) != t666) = true then (none) else ((warrantorref09_Itv.f a0_0 l0_1 a1).bind fun bt668 => (if (!(bt659.1 == bt668.1) || (!(bt659.2.1 == bt668.2))) = true then (none) else ((warrantorref09_Forget.f k a0_0 l0_1 a1).bind fun bt670 => ((warrantorref08_Same.f k bt647.1 bt647.2.1 bt670.1 bt670.2).bind fun t674 => (if t674 = true then (if t667 = true then (none) else (some true)) else (none)))))))) else (none)))) else (none))))) else (none))) else (none))))))))) = some r := h
  clear h
  replace H := bd_ H
  obtain ⟨t640, A5, H⟩ := H
  (try dsimp only at H)
  by_cases c6 : t640 = true
  · subst c6
    replace H := ps1_ H
    exact absurd H (by simp)
  replace c6 := Bool.eq_false_iff.mpr c6
  subst c6
  replace H := ng1_ H
  replace H := bd_ H
  obtain ⟨⟨t641, t642, t645⟩, A7, H⟩ := H
  (try dsimp only at H)
  replace H := bd_ H
  obtain ⟨⟨t647, t648, t651⟩, A8, H⟩ := H
  (try dsimp only at H)
  replace H := bd_ H
  obtain ⟨⟨t653, t654, t657⟩, A9, H⟩ := H
  (try dsimp only at H)
  replace H := bd_ H
  obtain ⟨⟨t659, t660, t661⟩, A10, H⟩ := H
  (try dsimp only at H)
  replace H := bd_ H
  obtain ⟨t663, A11, H⟩ := H
  (try dsimp only at H)
  replace H := yes_ H
  obtain ⟨c12, H⟩ := H
  subst c12
  replace H := bd_ H
  obtain ⟨t664, A13, H⟩ := H
  (try dsimp only at H)
  replace H := yes_ H
  obtain ⟨c14, H⟩ := H
  subst c14
  replace H := bd_ H
  obtain ⟨t665, A15, H⟩ := H
  (try dsimp only at H)
  replace H := bd_ H
  obtain ⟨t666, A16, H⟩ := H
  (try dsimp only at H)
  replace H := bd_ H
  obtain ⟨t667, A17, H⟩ := H
  (try dsimp only at H)
  replace H := yes_ H
  obtain ⟨c18, H⟩ := H
  subst c18
  by_cases c19 : ((t645 == 0) != t667) = true
  · rw [if_pos c19] at H
    exact absurd H (by simp)
  rw [if_neg c19] at H
  have c19b0 : ((t645 == 0) != t667) = false := by simpa using c19
  (try (have c19b1 : decide ((t645 == 0) = t667) = true := by simpa using c19))
  (try (have c19b2 : ((t645 == 0) == t667) = true := by simpa using c19))
  clear c19
  by_cases c20 : ((t651 == 0) != t665) = true
  · rw [if_pos c20] at H
    exact absurd H (by simp)
  rw [if_neg c20] at H
  have c20b0 : ((t651 == 0) != t665) = false := by simpa using c20
  (try (have c20b1 : decide ((t651 == 0) = t665) = true := by simpa using c20))
  (try (have c20b2 : ((t651 == 0) == t665) = true := by simpa using c20))
  clear c20
  replace H := yes_ H
  obtain ⟨c21, H⟩ := H
  subst c21
  by_cases c22 : ((t657 == 0) != t667) = true
  · rw [if_pos c22] at H
    exact absurd H (by simp)
  rw [if_neg c22] at H
  have c22b0 : ((t657 == 0) != t667) = false := by simpa using c22
  (try (have c22b1 : decide ((t657 == 0) = t667) = true := by simpa using c22))
  (try (have c22b2 : ((t657 == 0) == t667) = true := by simpa using c22))
  clear c22
  by_cases c23 : ((t661 == 0) != true) = true
  · rw [if_pos c23] at H
    exact absurd H (by simp)
  rw [if_neg c23] at H
  have c23b0 : ((t661 == 0) != true) = false := by simpa using c23
  (try (have c23b1 : decide ((t661 == 0) = true) = true := by simpa using c23))
  (try (have c23b2 : ((t661 == 0) == true) = true := by simpa using c23))
  clear c23
  replace H := bd_ H
  obtain ⟨⟨t668, t669⟩, A24, H⟩ := H
  (try dsimp only at H)
  by_cases c25 : (!(t659 == t668) || (!(t660 == t669))) = true
  · rw [if_pos c25] at H
    exact absurd H (by simp)
  rw [if_neg c25] at H
  have c25b0 : (!(t659 == t668) || (!(t660 == t669))) = false := by simpa using c25
  clear c25
  replace H := bd_ H
  obtain ⟨⟨t670, t671⟩, A26, H⟩ := H
  (try dsimp only at H)
  replace H := bd_ H
  obtain ⟨t674, A27, H⟩ := H
  (try dsimp only at H)
  replace H := yes_ H
  obtain ⟨c28, H⟩ := H
  subst c28
  by_cases c29 : t667 = true
  · subst c29
    replace H := ps1_ H
    exact absurd H (by simp)
  replace c29 := Bool.eq_false_iff.mpr c29
  subst c29
  replace H := ng1_ H
  obtain rfl := Option.some.inj H
  go_enter Try.func4, Try.ntmps4
  try go_wp2_with (first | ((with_reducible refine gate_dst (N := 4) rfl ?_); (try (refine gate_guard (by rfl) ?_; dsimp only)); refine bx_ (N := 4) (cs := #[.int .i64 a0_0, .slice A0_1 l0_1.length c0_1]) (t := 24) ?_; intro gb639 hg w30 hbox hb; have n_ := a_ (bs_ HB hb) (a_ (Aside0.mk hbox) (a_ (gs_ HB hg) (gs_ HB hg))); clear HB; obtain ⟨HB, BK639, GW639, GE639⟩ := n_; clear hb hbox hg; obtain ⟨hcz31_0, hcz31_1, hfz31_0, hfz31_1⟩ := cz2_ BK639) | ((with_reducible refine gate_callee (f := 12) rfl ?_); refine goesL_ (some 22) rfl rfl Try.func12 (by kernel_rfl) rfl #[.slice A0_1 l0_1.length c0_1] rfl MP_ ?_; (with_reducible refine (warrantorref08_Large.calls _ _ l0_1 false _ ?side1 ?side2 A5.out).mono ?_); (case side1 => exact sd_ (Kd.C_below HR0_1.out HB.out)); (case side2 => exact HC0_1.out); rintro e w' ⟨rfl, ⟨nd, rfl⟩⟩; refine ⟨_, rfl, ?_⟩; (try (rw [drewN_self w30]; generalize hq_ : World.drewN w30 _ = w30; have n0_ : Aside0 (w30.heap[gb639]? = some (.cells #[.int .i64 a0_0, .slice A0_1 l0_1.length c0_1] 24 (0, 0))) := ⟨by rw [← hq_]; exact (bk_ BK639.out)⟩; have n1_ : Aside0 (Below w.heap.size w w30) := ⟨by rw [← hq_]; exact HB_⟩; clear BK639 HB hq_; have BK639 := n0_; have HB := n1_; clear n0_ n1_; (try (obtain ⟨hczu_gb639_0, hczu_gb639_1, hfzu_gb639_0, hfzu_gb639_1⟩ := cz2_ BK639))))) | ((with_reducible refine gate_callee (f := 23) rfl ?_); refine goesL_ (some 29) rfl rfl Try.func23 (by kernel_rfl) rfl #[.agg #[.int .i64 a0_0, .slice A0_1 l0_1.length c0_1], .int .i64 a1, .int .i64 a2, .int .i64 a3] rfl MP_ ?_; (with_reducible refine (zone_Limit.calls k a0_0 _ _ l0_1 a1 a2 a3 t641 t642 t645 _ ?side1 ?side2 A7.out).mono ?_); (case side1 => exact sd_ (Kd.C_below HR0_1.out HB.out)); (case side2 => exact HC0_1.out); rintro e w32 ⟨v643, rfl, ho0, hb⟩; refine ⟨_, rfl, ?_⟩; have n_ := a_ (Aside0.mk (Kd.R_lower ho0 (below_size HB_))) (a_ (bb_ BK639 hb) (bs_ HB hb)); clear BK639 HB; obtain ⟨HO644, BK639, HB⟩ := n_; (try clear hb); (try clear hb2); (try clear hk); (try clear hi); (try clear ho0)) | ((with_reducible refine gate_dst (N := 9) rfl ?_); (try (refine gate_guard (by rfl) ?_; dsimp only)); refine bx_ (N := 9) (cs := #[.int .i64 0, .slice none 0 0]) (t := 24) ?_; intro gb646 hg w33 hbox hb; have n_ := a_ (rb_ HO644 hb) (a_ (bb_ BK639 hb) (a_ (bs_ HB hb) (a_ (Aside0.mk hbox) (a_ (gs_ HB hg) (a_ (gs_ HB hg) (a_ (nl_ BK639 hg) (ng_ BK639 hg))))))); clear HO644 BK639 HB; obtain ⟨HO644, BK639, HB, BK646, GW646, GE646, NB639_646, NB646_639⟩ := n_; clear hb hbox hg; have hnb34 := NB646_639.out; have hnc34 := NB639_646.out; obtain ⟨hcz35_0, hcz35_1, hfz35_0, hfz35_1⟩ := cz2_ BK646; obtain ⟨Ao36, co36, eo36⟩ := Kd.R_slice HO644.out; subst eo36; obtain ⟨hcz37_0, hcz37_1, hfz37_0, hfz37_1⟩ := cz2_ BK639) | ((with_reducible refine gate_callee (f := 24) rfl ?_); refine goesL_ (some 35) rfl rfl Try.func24 (by kernel_rfl) rfl #[.agg #[.int .i64 a0_0, .slice A0_1 l0_1.length c0_1], .int .i64 a1] rfl MP_ ?_; (with_reducible refine (zone_Forget.calls k a0_0 _ _ l0_1 a1 t647 t648 t651 _ ?side1 ?side2 A8.out).mono ?_); (case side1 => exact Kd.C_below HR0_1.out HB_); (case side2 => exact HC0_1.out); rintro e w38 ⟨v649, rfl, ho0, hb⟩; refine ⟨_, rfl, ?_⟩; have n_ := a_ (Aside0.mk (Kd.R_elder' (rd_ (rf2_ HO644 BK646 (.int .i64 t641) (.slice Ao36 t642.length co36))) (Kd.R_base ho0) hb)) (a_ (Aside0.mk (Kd.R_lower (Kd.R_new' ho0 (Kd.R_lt (rd_ (rf2_ HO644 BK646 (.int .i64 t641) (.slice Ao36 t642.length co36))))) (below_size HB_))) (a_ (bc_ #[.int .i64 a0_0, .slice A0_1 l0_1.length c0_1] 24 BK639 hb) (a_ (bc_ #[.int .i64 t641, .slice Ao36 t642.length co36] 24 BK646 hb) (bs_ HB hb)))); clear HO644 BK639 BK646 HB; obtain ⟨HO644, HO650, BK639, BK646, HB⟩ := n_; (try clear hb); (try clear hb2); (try clear hk); (try clear hi); (try clear ho0)) | ((with_reducible refine gate_dst (N := 11) rfl ?_); (try (refine gate_guard (by rfl) ?_; dsimp only)); refine bx_ (N := 11) (cs := #[.int .i64 0, .slice none 0 0]) (t := 24) ?_; intro gb652 hg w39 hbox hb; have n_ := a_ (rb_ HO644 hb) (a_ (rb_ HO650 hb) (a_ (bb_ BK639 hb) (a_ (bb_ BK646 hb) (a_ (bs_ HB hb) (a_ (Aside0.mk hbox) (a_ (gs_ HB hg) (a_ (gs_ HB hg) (a_ (nl_ BK639 hg) (a_ (ng_ BK639 hg) (a_ (nl_ BK646 hg) (ng_ BK646 hg))))))))))); clear HO644 HO650 BK639 BK646 HB; obtain ⟨HO644, HO650, BK639, BK646, HB, BK652, GW652, GE652, NB639_652, NB652_639, NB646_652, NB652_646⟩ := n_; clear hb hbox hg; have hnb40 := NB652_639.out; have hnc40 := NB639_652.out; have hnb41 := NB652_646.out; have hnc41 := NB646_652.out; obtain ⟨hcz42_0, hcz42_1, hfz42_0, hfz42_1⟩ := cz2_ BK652; obtain ⟨Ao43, co43, eo43⟩ := Kd.R_slice HO650.out; subst eo43; obtain ⟨hcz44_0, hcz44_1, hfz44_0, hfz44_1⟩ := cz2_ BK639) | ((with_reducible refine gate_callee (f := 25) rfl ?_); refine goesL_ (some 43) rfl rfl Try.func25 (by kernel_rfl) rfl #[.agg #[.int .i64 a0_0, .slice A0_1 l0_1.length c0_1], .int .i64 a1, .int .i64 a2, .int .i64 a3] rfl MP_ ?_; (with_reducible refine (zone_Let.calls k a0_0 _ _ l0_1 a1 a2 a3 t653 t654 t657 _ ?side1 ?side2 A9.out).mono ?_); (case side1 => exact Kd.C_below HR0_1.out HB_); (case side2 => exact HC0_1.out); rintro e w45 ⟨v655, rfl, ho0, hb⟩; refine ⟨_, rfl, ?_⟩; have n_ := a_ (Aside0.mk (Kd.R_elder' (rd_ (rf2_ HO644 BK652 (.int .i64 t647) (.slice Ao43 t648.length co43))) (Kd.R_base ho0) hb)) (a_ (Aside0.mk (Kd.R_elder' (rd_ (rf2_ HO650 BK652 (.int .i64 t647) (.slice Ao43 t648.length co43))) (Kd.R_base ho0) hb)) (a_ (Aside0.mk (Kd.R_lower (Kd.R_new' (Kd.R_new' ho0 (Kd.R_lt (rd_ (rf2_ HO644 BK652 (.int .i64 t647) (.slice Ao43 t648.length co43))))) (Kd.R_lt (rd_ (rf2_ HO650 BK652 (.int .i64 t647) (.slice Ao43 t648.length co43))))) (below_size HB_))) (a_ (bc_ #[.int .i64 a0_0, .slice A0_1 l0_1.length c0_1] 24 BK639 hb) (a_ (bc_ #[.int .i64 t641, .slice Ao36 t642.length co36] 24 BK646 hb) (a_ (bc_ #[.int .i64 t647, .slice Ao43 t648.length co43] 24 BK652 hb) (bs_ HB hb)))))); clear HO644 HO650 BK639 BK646 BK652 HB; obtain ⟨HO644, HO650, HO656, BK639, BK646, BK652, HB⟩ := n_; (try clear hb); (try clear hb2); (try clear hk); (try clear hi); (try clear ho0)) | ((with_reducible refine gate_dst (N := 13) rfl ?_); (try (refine gate_guard (by rfl) ?_; dsimp only)); refine bx_ (N := 13) (cs := #[.int .i64 0, .slice none 0 0]) (t := 24) ?_; intro gb658 hg w46 hbox hb; have n_ := a_ (rb_ HO644 hb) (a_ (rb_ HO650 hb) (a_ (rb_ HO656 hb) (a_ (bb_ BK639 hb) (a_ (bb_ BK646 hb) (a_ (bb_ BK652 hb) (a_ (bs_ HB hb) (a_ (Aside0.mk hbox) (a_ (gs_ HB hg) (a_ (gs_ HB hg) (a_ (nl_ BK639 hg) (a_ (ng_ BK639 hg) (a_ (nl_ BK646 hg) (a_ (ng_ BK646 hg) (a_ (nl_ BK652 hg) (ng_ BK652 hg))))))))))))))); clear HO644 HO650 HO656 BK639 BK646 BK652 HB; obtain ⟨HO644, HO650, HO656, BK639, BK646, BK652, HB, BK658, GW658, GE658, NB639_658, NB658_639, NB646_658, NB658_646, NB652_658, NB658_652⟩ := n_; clear hb hbox hg; have hnb47 := NB658_639.out; have hnc47 := NB639_658.out; have hnb48 := NB658_646.out; have hnc48 := NB646_658.out; have hnb49 := NB658_652.out; have hnc49 := NB652_658.out; obtain ⟨hcz50_0, hcz50_1, hfz50_0, hfz50_1⟩ := cz2_ BK658; obtain ⟨Ao51, co51, eo51⟩ := Kd.R_slice HO656.out; subst eo51; obtain ⟨hcz52_0, hcz52_1, hfz52_0, hfz52_1⟩ := cz2_ BK639) | ((with_reducible refine gate_callee (f := 26) rfl ?_); refine goesL_ (some 49) rfl rfl Try.func26 (by kernel_rfl) rfl #[.agg #[.int .i64 a0_0, .slice A0_1 l0_1.length c0_1], .int .i64 a1] rfl MP_ ?_; (with_reducible refine (zone_Itv.calls k a0_0 _ _ l0_1 a1 t659 t660 t661 _ ?side1 ?side2 A10.out).mono ?_); (case side1 => exact Kd.C_below HR0_1.out HB_); (case side2 => exact HC0_1.out); rintro e w53 ⟨rfl, hb⟩; refine ⟨_, rfl, ?_⟩; have n_ := a_ (Aside0.mk (Kd.R_below (rd_ (rf2_ HO644 BK658 (.int .i64 t653) (.slice Ao51 t654.length co51))) hb)) (a_ (Aside0.mk (Kd.R_below (rd_ (rf2_ HO650 BK658 (.int .i64 t653) (.slice Ao51 t654.length co51))) hb)) (a_ (Aside0.mk (Kd.R_below (rd_ (rf2_ HO656 BK658 (.int .i64 t653) (.slice Ao51 t654.length co51))) hb)) (a_ (bc_ #[.int .i64 a0_0, .slice A0_1 l0_1.length c0_1] 24 BK639 hb) (a_ (bc_ #[.int .i64 t641, .slice Ao36 t642.length co36] 24 BK646 hb) (a_ (bc_ #[.int .i64 t647, .slice Ao43 t648.length co43] 24 BK652 hb) (a_ (bc_ #[.int .i64 t653, .slice Ao51 t654.length co51] 24 BK658 hb) (bs_ HB hb))))))); clear HO644 HO650 HO656 BK639 BK646 BK652 BK658 HB; obtain ⟨HO644, HO650, HO656, BK639, BK646, BK652, BK658, HB⟩ := n_; (try clear hb); (try clear hb2); (try clear hk); (try clear hi)) | ((with_reducible refine gate_dst (N := 15) rfl ?_); (try (refine gate_guard (by rfl) ?_; dsimp only)); refine bx_ (N := 15) (cs := #[.int .i64 0, .int .i64 0]) (t := 39) ?_; intro gb662 hg w54 hbox hb; have n_ := a_ (rb_ HO644 hb) (a_ (rb_ HO650 hb) (a_ (rb_ HO656 hb) (a_ (bb_ BK639 hb) (a_ (bb_ BK646 hb) (a_ (bb_ BK652 hb) (a_ (bb_ BK658 hb) (a_ (bs_ HB hb) (a_ (Aside0.mk hbox) (a_ (gs_ HB hg) (a_ (gs_ HB hg) (a_ (nl_ BK639 hg) (a_ (ng_ BK639 hg) (a_ (nl_ BK646 hg) (a_ (ng_ BK646 hg) (a_ (nl_ BK652 hg) (a_ (ng_ BK652 hg) (a_ (nl_ BK658 hg) (ng_ BK658 hg)))))))))))))))))); clear HO644 HO650 HO656 BK639 BK646 BK652 BK658 HB; obtain ⟨HO644, HO650, HO656, BK639, BK646, BK652, BK658, HB, BK662, GW662, GE662, NB639_662, NB662_639, NB646_662, NB662_646, NB652_662, NB662_652, NB658_662, NB662_658⟩ := n_; clear hb hbox hg; have hnb55 := NB662_639.out; have hnc55 := NB639_662.out; have hnb56 := NB662_646.out; have hnc56 := NB646_662.out; have hnb57 := NB662_652.out; have hnc57 := NB652_662.out; have hnb58 := NB662_658.out; have hnc58 := NB658_662.out; obtain ⟨hcz59_0, hcz59_1, hfz59_0, hfz59_1⟩ := cz2_ BK662) | ((with_reducible refine gate_callee (f := 22) rfl ?_); refine goesL_ (some 52) rfl rfl Try.func22 (by kernel_rfl) rfl #[] rfl MP_ ?_; (with_reducible refine (warrantorlaw09_lives.calls k  true _ A11.out).mono ?_); rintro e w60 ⟨rfl, hb⟩; refine ⟨_, rfl, ?_⟩; have n_ := a_ (Aside0.mk (Kd.R_below (rd_ (rf2_ HO644 BK662 (.int .i64 t659) (.int .i64 t660))) hb)) (a_ (Aside0.mk (Kd.R_below (rd_ (rf2_ HO650 BK662 (.int .i64 t659) (.int .i64 t660))) hb)) (a_ (Aside0.mk (Kd.R_below (rd_ (rf2_ HO656 BK662 (.int .i64 t659) (.int .i64 t660))) hb)) (a_ (bc_ #[.int .i64 a0_0, .slice A0_1 l0_1.length c0_1] 24 BK639 hb) (a_ (bc_ #[.int .i64 t641, .slice Ao36 t642.length co36] 24 BK646 hb) (a_ (bc_ #[.int .i64 t647, .slice Ao43 t648.length co43] 24 BK652 hb) (a_ (bc_ #[.int .i64 t653, .slice Ao51 t654.length co51] 24 BK658 hb) (a_ (bc_ #[.int .i64 t659, .int .i64 t660] 39 BK662 hb) (bs_ HB hb)))))))); clear HO644 HO650 HO656 BK639 BK646 BK652 BK658 BK662 HB; obtain ⟨HO644, HO650, HO656, BK639, BK646, BK652, BK658, BK662, HB⟩ := n_; (try clear hb); (try clear hb2); (try clear hk); (try clear hi); obtain ⟨hcz61_0, hcz61_1, hfz61_0, hfz61_1⟩ := cz2_ BK639) | ((with_reducible refine gate_callee (f := 27) rfl ?_); refine goesL_ (some 55) rfl rfl Try.func27 (by kernel_rfl) rfl #[.agg #[.int .i64 a0_0, .slice A0_1 l0_1.length c0_1]] rfl MP_ ?_; (with_reducible refine (warrantorref08_Check.calls k a0_0 _ _ l0_1 true _ ?side1 ?side2 A13.out).mono ?_); (case side1 => exact sd_ (Kd.C_below HR0_1.out HB.out)); (case side2 => exact HC0_1.out); rintro e w62 ⟨rfl, hb⟩; refine ⟨_, rfl, ?_⟩; have n_ := a_ (rb_ HO644 hb) (a_ (rb_ HO650 hb) (a_ (rb_ HO656 hb) (a_ (bb_ BK639 hb) (a_ (bb_ BK646 hb) (a_ (bb_ BK652 hb) (a_ (bb_ BK658 hb) (a_ (bb_ BK662 hb) (bs_ HB hb)))))))); clear HO644 HO650 HO656 BK639 BK646 BK652 BK658 BK662 HB; obtain ⟨HO644, HO650, HO656, BK639, BK646, BK652, BK658, BK662, HB⟩ := n_; (try clear hb); (try clear hb2); (try clear hk); (try clear hi)))
  first | (obtain ⟨w62, hq_⟩ : ∃ x, x = w62.drewN nd := ⟨_, rfl⟩; rw [← hq_]; have q0_ := Aside0.mk (Kd.R_drewN HO644.out nd); rw [← hq_] at q0_; have q1_ := Aside0.mk (Kd.R_drewN HO650.out nd); rw [← hq_] at q1_; have q2_ := Aside0.mk (Kd.R_drewN HO656.out nd); rw [← hq_] at q2_; have q3_ := Aside0.mk (blk_drewN BK639.out nd); rw [← hq_] at q3_; have q4_ := Aside0.mk (blk_drewN BK646.out nd); rw [← hq_] at q4_; have q5_ := Aside0.mk (blk_drewN BK652.out nd); rw [← hq_] at q5_; have q6_ := Aside0.mk (blk_drewN BK658.out nd); rw [← hq_] at q6_; have q7_ := Aside0.mk (blk_drewN BK662.out nd); rw [← hq_] at q7_; have q8_ := Aside0.mk (pw_below_drewN HB.out nd); rw [← hq_] at q8_; clear HO644; clear HO650; clear HO656; clear BK639; clear BK646; clear BK652; clear BK658; clear BK662; clear HB; have HO644 := q0_; have HO650 := q1_; have HO656 := q2_; have BK639 := q3_; have BK646 := q4_; have BK652 := q5_; have BK658 := q6_; have BK662 := q7_; have HB := q8_; clear hq_ q0_ q1_ q2_ q3_ q4_ q5_ q6_ q7_ q8_) | skip
  have n_ := a_ (Aside0.mk (Kd.R_drew HO644.out)) (a_ (Aside0.mk (Kd.R_drew HO650.out)) (a_ (Aside0.mk (Kd.R_drew HO656.out)) (a_ (Aside0.mk (blk_drew BK639.out)) (a_ (Aside0.mk (blk_drew BK646.out)) (a_ (Aside0.mk (blk_drew BK652.out)) (a_ (Aside0.mk (blk_drew BK658.out)) (a_ (Aside0.mk (blk_drew BK662.out)) (Aside0.mk (below_drew1 HB.out)))))))))
  clear HO644 HO650 HO656 BK639 BK646 BK652 BK658 BK662 HB
  obtain ⟨HO644, HO650, HO656, BK639, BK646, BK652, BK658, BK662, HB⟩ := n_
  refine start_ (n := 12) (S := fun w' => w'.cell? ⟨gb639, 0, none⟩ = some (.int .i64 a0_0) ∧ w'.cell? ⟨gb639, 1, none⟩ = some (.slice A0_1 l0_1.length c0_1)) (ds := []) #[false, false, false, false, false, false, false, false, false, false, false, false] (by kernel_rfl) rfl rfl ⟨(blk_cell BK639.out 0).trans rfl, (blk_cell BK639.out 1).trans rfl⟩ (fun hHeld => ?_); refine with_tabW warrantorlaw09_ZoneOne_v2.tab11 warrantorlaw09_ZoneOne_v2.bits11 (fun HT_ HW_ => ?_)
  generalize w62.drew = w63 at HO644 HO650 HO656 BK639 BK646 BK652 BK658 BK662 HB hHeld ⊢
  refine pu_ 1 (some 91) ?_
  refine pu_ 4 (some 94) ?_
  refine pu_ 7 (some 97) ?_
  refine take_ (i := 0) (N := some 90) (v := ?_) (a' := ?_) #[true, true, false, false, true, false, false, true, false, false, false, false] rfl rfl (take_ofW HT_.out HW_.out (by kernel_rfl)) (fun _ _ _ h => h) (Or.inl ⟨by rfl, ?_⟩) hHeld ?_ ?_
  rotate_left
  · rintro w' ⟨s0, s1⟩
    go_simp
    with_reducible rfl
  rotate_left
  · exact AP_
  refine take_ (i := 3) (N := some 93) (v := ?_) (a' := ?_) #[true, true, false, true, true, false, false, true, false, false, false, false] rfl rfl (take_ofW HT_.out HW_.out (by kernel_rfl)) (fun _ _ _ h => h) (Or.inl ⟨by rfl, ?_⟩) hHeld ?_ ?_
  rotate_left
  · rintro w' ⟨s0, s1⟩
    go_simp
    with_reducible rfl
  rotate_left
  · exact AP_
  refine take_ (i := 6) (N := some 96) (v := ?_) (a' := ?_) #[true, true, false, true, true, false, true, true, false, false, false, false] rfl rfl (take_ofW HT_.out HW_.out (by kernel_rfl)) (fun _ _ _ h => h) (Or.inl ⟨by rfl, ?_⟩) hHeld ?_ ?_
  rotate_left
  · rintro w' ⟨s0, s1⟩
    go_simp
    with_reducible rfl
  rotate_left
  · exact AP_
  refine on_ 2 (some 92) (fun K hK => ?_)
  refine goes_ Try.func28 (by kernel_rfl) rfl #[.agg #[.int .i64 a0_0, .slice A0_1 l0_1.length c0_1], .int .i64 a1] (by rfl) rfl rfl MP_ ?_
  with_reducible refine (warrantorref09_Var.calls a0_0 _ _ l0_1 a1 true _ ?side1 ?side2 A15.out).mono ?_
  (case side1 => exact sd_ (Kd.C_below HR0_1.out HB.out))
  (case side2 => exact HC0_1.out)
  rintro e w64 ⟨rfl, hb⟩
  refine ⟨_, rfl, ?_⟩
  have n_ := a_ (rb_ HO644 hb) (a_ (rb_ HO650 hb) (a_ (rb_ HO656 hb) (a_ (bb_ BK639 hb) (a_ (bb_ BK646 hb) (a_ (bb_ BK652 hb) (a_ (bb_ BK658 hb) (a_ (bb_ BK662 hb) (bs_ HB hb))))))))
  clear HO644 HO650 HO656 BK639 BK646 BK652 BK658 BK662 HB
  obtain ⟨HO644, HO650, HO656, BK639, BK646, BK652, BK658, BK662, HB⟩ := n_
  (try clear hb)
  (try clear hb2)
  (try clear hk)
  (try clear hi)
  refine hK.out _ _ ⟨(blk_cell BK639.out 0).trans rfl, (blk_cell BK639.out 1).trans rfl⟩ (fun hHeld => ?_)
  clear hK K
  refine nm_ ?_
  refine on_ 5 (some 95) (fun K hK => ?_)
  refine goes_ Try.func29 (by kernel_rfl) rfl #[.agg #[.int .i64 a0_0, .slice A0_1 l0_1.length c0_1], .int .i64 a1] (by rfl) rfl rfl MP_ ?_
  with_reducible refine (warrantorref09_Or0.calls a0_0 _ _ l0_1 a1 true _ ?side1 ?side2 A16.out).mono ?_
  (case side1 => exact sd_ (Kd.C_below HR0_1.out HB.out))
  (case side2 => exact HC0_1.out)
  rintro e w65 ⟨rfl, hb⟩
  refine ⟨_, rfl, ?_⟩
  have n_ := a_ (rb_ HO644 hb) (a_ (rb_ HO650 hb) (a_ (rb_ HO656 hb) (a_ (bb_ BK639 hb) (a_ (bb_ BK646 hb) (a_ (bb_ BK652 hb) (a_ (bb_ BK658 hb) (a_ (bb_ BK662 hb) (bs_ HB hb))))))))
  clear HO644 HO650 HO656 BK639 BK646 BK652 BK658 BK662 HB
  obtain ⟨HO644, HO650, HO656, BK639, BK646, BK652, BK658, BK662, HB⟩ := n_
  (try clear hb)
  (try clear hb2)
  (try clear hk)
  (try clear hi)
  refine hK.out _ _ ⟨(blk_cell BK639.out 0).trans rfl, (blk_cell BK639.out 1).trans rfl⟩ (fun hHeld => ?_)
  clear hK K
  refine nm_ ?_
  refine on_ 8 (some 98) (fun K hK => ?_)
  refine goes_ Try.func29 (by kernel_rfl) rfl #[.agg #[.int .i64 a0_0, .slice A0_1 l0_1.length c0_1], .int .i64 a2] (by rfl) rfl rfl MP_ ?_
  with_reducible refine (warrantorref09_Or0.calls a0_0 _ _ l0_1 a2 false _ ?side1 ?side2 A17.out).mono ?_
  (case side1 => exact sd_ (Kd.C_below HR0_1.out HB.out))
  (case side2 => exact HC0_1.out)
  rintro e w66 ⟨rfl, hb⟩
  refine ⟨_, rfl, ?_⟩
  have n_ := a_ (rb_ HO644 hb) (a_ (rb_ HO650 hb) (a_ (rb_ HO656 hb) (a_ (bb_ BK639 hb) (a_ (bb_ BK646 hb) (a_ (bb_ BK652 hb) (a_ (bb_ BK658 hb) (a_ (bb_ BK662 hb) (bs_ HB hb))))))))
  clear HO644 HO650 HO656 BK639 BK646 BK652 BK658 BK662 HB
  obtain ⟨HO644, HO650, HO656, BK639, BK646, BK652, BK658, BK662, HB⟩ := n_
  (try clear hb)
  (try clear hb2)
  (try clear hk)
  (try clear hi)
  refine hK.out _ _ ⟨(blk_cell BK639.out 0).trans rfl, (blk_cell BK639.out 1).trans rfl⟩ (fun hHeld => ?_)
  clear hK K
  refine nm_ ?_
  refine pu_ 9 (some 17) ?_
  refine pu_ 10 (some 18) ?_
  refine pu_ 11 (some 19) ?_
  refine done_ (done_of HT_.out (by kernel_rfl)) ?_
  try go_wp2
  first | (obtain ⟨w66, hq_⟩ : ∃ x, x = w66.drewN nd := ⟨_, rfl⟩; rw [← hq_]; have q0_ := Aside0.mk (Kd.R_drewN HO644.out nd); rw [← hq_] at q0_; have q1_ := Aside0.mk (Kd.R_drewN HO650.out nd); rw [← hq_] at q1_; have q2_ := Aside0.mk (Kd.R_drewN HO656.out nd); rw [← hq_] at q2_; have q3_ := Aside0.mk (blk_drewN BK639.out nd); rw [← hq_] at q3_; have q4_ := Aside0.mk (blk_drewN BK646.out nd); rw [← hq_] at q4_; have q5_ := Aside0.mk (blk_drewN BK652.out nd); rw [← hq_] at q5_; have q6_ := Aside0.mk (blk_drewN BK658.out nd); rw [← hq_] at q6_; have q7_ := Aside0.mk (blk_drewN BK662.out nd); rw [← hq_] at q7_; have q8_ := Aside0.mk (pw_below_drewN HB.out nd); rw [← hq_] at q8_; clear HO644; clear HO650; clear HO656; clear BK639; clear BK646; clear BK652; clear BK658; clear BK662; clear HB; have HO644 := q0_; have HO650 := q1_; have HO656 := q2_; have BK639 := q3_; have BK646 := q4_; have BK652 := q5_; have BK658 := q6_; have BK662 := q7_; have HB := q8_; clear hq_ q0_ q1_ q2_ q3_ q4_ q5_ q6_ q7_ q8_) | skip
  have n_ := a_ (Aside0.mk (Kd.R_drew HO644.out)) (a_ (Aside0.mk (Kd.R_drew HO650.out)) (a_ (Aside0.mk (Kd.R_drew HO656.out)) (a_ (Aside0.mk (blk_drew BK639.out)) (a_ (Aside0.mk (blk_drew BK646.out)) (a_ (Aside0.mk (blk_drew BK652.out)) (a_ (Aside0.mk (blk_drew BK658.out)) (a_ (Aside0.mk (blk_drew BK662.out)) (Aside0.mk (below_drew1 HB.out)))))))))
  clear HO644 HO650 HO656 BK639 BK646 BK652 BK658 BK662 HB
  obtain ⟨HO644, HO650, HO656, BK639, BK646, BK652, BK658, BK662, HB⟩ := n_
  refine start_ (n := 16) (S := fun w' => w'.cell? ⟨gb662, 0, none⟩ = some (.int .i64 t659) ∧ w'.cell? ⟨gb662, 1, none⟩ = some (.int .i64 t660) ∧ w'.cell? ⟨gb639, 0, none⟩ = some (.int .i64 a0_0) ∧ w'.cell? ⟨gb639, 1, none⟩ = some (.slice A0_1 l0_1.length c0_1) ∧ w'.cell? ⟨gb652, 0, none⟩ = some (.int .i64 t647) ∧ w'.cell? ⟨gb652, 1, none⟩ = some (.slice Ao43 t648.length co43)) (ds := []) #[false, false, false, false, false, false, false, false, false, false, false, false, false, false, false, false] (by kernel_rfl) rfl rfl ⟨(blk_cell BK662.out 0).trans rfl, (blk_cell BK662.out 1).trans rfl, (blk_cell BK639.out 0).trans rfl, (blk_cell BK639.out 1).trans rfl, (blk_cell BK652.out 0).trans rfl, (blk_cell BK652.out 1).trans rfl⟩ (fun hHeld => ?_); refine with_tabW warrantorlaw09_ZoneOne_v2.tab16 warrantorlaw09_ZoneOne_v2.bits16 (fun HT_ HW_ => ?_)
  generalize w66.drew = w67 at HO644 HO650 HO656 BK639 BK646 BK652 BK658 BK662 HB hHeld ⊢
  refine pu_ 2 (some 145) ?_
  refine take_ (i := 0) (N := some 143) (v := ?_) (a' := ?_) #[true, false, true, false, false, false, false, false, false, false, false, false, false, false, false, false] rfl rfl (take_ofW HT_.out HW_.out (by kernel_rfl)) (fun _ _ _ h => h) (Or.inl ⟨by rfl, ?_⟩) hHeld ?_ ?_
  rotate_left
  · rintro w' ⟨s0, s1, s2, s3, s4, s5⟩
    go_simp
    with_reducible rfl
  rotate_left
  · exact AP_
  refine take_ (i := 1) (N := some 144) (v := ?_) (a' := ?_) #[true, true, true, false, false, false, false, false, false, false, false, false, false, false, false, false] rfl rfl (take_ofW HT_.out HW_.out (by kernel_rfl)) (fun _ _ _ h => h) (Or.inl ⟨by rfl, ?_⟩) hHeld ?_ ?_
  rotate_left
  · rintro w' ⟨s0, s1, s2, s3, s4, s5⟩
    go_simp
    with_reducible rfl
  rotate_left
  · exact AP_
  refine on_ 3 (some 146) (fun K hK => ?_)
  refine goes_ Try.func30 (by kernel_rfl) rfl #[.agg #[.int .i64 a0_0, .slice A0_1 l0_1.length c0_1], .int .i64 a1] (by rfl) rfl rfl MP_ ?_
  with_reducible refine (warrantorref09_Itv.calls a0_0 _ _ l0_1 a1 t668 t669 _ ?side1 ?side2 A24.out).mono ?_
  (case side1 => exact sd_ (Kd.C_below HR0_1.out HB.out))
  (case side2 => exact HC0_1.out)
  rintro e w68 ⟨rfl, hb⟩
  refine ⟨_, rfl, ?_⟩
  have n_ := a_ (rb_ HO644 hb) (a_ (rb_ HO650 hb) (a_ (rb_ HO656 hb) (a_ (bb_ BK639 hb) (a_ (bb_ BK646 hb) (a_ (bb_ BK652 hb) (a_ (bb_ BK658 hb) (a_ (bb_ BK662 hb) (bs_ HB hb))))))))
  clear HO644 HO650 HO656 BK639 BK646 BK652 BK658 BK662 HB
  obtain ⟨HO644, HO650, HO656, BK639, BK646, BK652, BK658, BK662, HB⟩ := n_
  (try clear hb)
  (try clear hb2)
  (try clear hk)
  (try clear hi)
  refine hK.out _ _ ⟨(blk_cell BK662.out 0).trans rfl, (blk_cell BK662.out 1).trans rfl, (blk_cell BK639.out 0).trans rfl, (blk_cell BK639.out 1).trans rfl, (blk_cell BK652.out 0).trans rfl, (blk_cell BK652.out 1).trans rfl⟩ (fun hHeld => ?_)
  clear hK K
  refine nm_ ?_
  refine pu_ 4 (some 147) ?_
  refine pu_ 5 (some 148) ?_
  refine pu_ 6 (some 149) ?_
  refine pu_ 7 (some 150) ?_
  refine pu_ 10 (some 153) ?_
  refine take_ (i := 8) (N := some 151) (v := ?_) (a' := ?_) #[true, true, true, true, true, true, true, true, true, false, true, false, false, false, false, false] rfl rfl (take_ofW HT_.out HW_.out (by kernel_rfl)) (fun _ _ _ h => h) (Or.inl ⟨by rfl, ?_⟩) hHeld ?_ ?_
  rotate_left
  · rintro w' ⟨s0, s1, s2, s3, s4, s5⟩
    go_simp
    with_reducible rfl
  rotate_left
  · exact AP_
  refine take_ (i := 9) (N := some 152) (v := ?_) (a' := ?_) #[true, true, true, true, true, true, true, true, true, true, true, false, false, false, false, false] rfl rfl (take_ofW HT_.out HW_.out (by kernel_rfl)) (fun _ _ _ h => h) (Or.inl ⟨by rfl, ?_⟩) hHeld ?_ ?_
  rotate_left
  · rintro w' ⟨s0, s1, s2, s3, s4, s5⟩
    go_simp
    with_reducible rfl
  rotate_left
  · exact AP_
  refine on_ 11 (some 154) (fun K hK => ?_)
  refine goes_ Try.func31 (by kernel_rfl) rfl #[.agg #[.int .i64 a0_0, .slice A0_1 l0_1.length c0_1], .int .i64 a1] (by rfl) rfl rfl MP_ ?_
  with_reducible refine (warrantorref09_Forget.calls k a0_0 (fun k_ => k_ < w.heap.size) _ _ l0_1 a1 t670 t671 _ ?side1 A26.out).mono ?_
  (case side1 => exact Kd.V_mk HC0_1.out (Kd.F_below (Kd.C_F (Kd.heap_int .i64) HR0_1.out) HB_))
  rintro e w69 ⟨v672, rfl, ho0, hb⟩
  refine ⟨_, rfl, ?_⟩
  have n_ := a_ (rb_ HO644 hb) (a_ (rb_ HO650 hb) (a_ (rb_ HO656 hb) (a_ (Aside0.mk (Kd.V_lower (Kd.V_mono (ok' := fun k_ => some k_ ≠ (.slice Ao36 t642.length co36 : Value).ownBlock ∧ some k_ ≠ (.slice Ao43 t648.length co43 : Value).ownBlock ∧ some k_ ≠ (.slice Ao51 t654.length co51 : Value).ownBlock ∧ k_ ≠ gb639 ∧ k_ ≠ gb646 ∧ k_ ≠ gb652 ∧ k_ ≠ gb658 ∧ k_ ≠ gb662) ho0 (fun k_ hk_ => ⟨Or.elim hk_ (fun hs_ => fun e_ => Nat.not_le.2 hs_ (Kd.R_base HO644.out k_ e_.symm)) (fun hn_ => (Kd.fresh' (Kd.R_lt (rd_ HO644.out)) k_ hn_)), Or.elim hk_ (fun hs_ => fun e_ => Nat.not_le.2 hs_ (Kd.R_base HO650.out k_ e_.symm)) (fun hn_ => (Kd.fresh' (Kd.R_lt (rd_ HO650.out)) k_ hn_)), Or.elim hk_ (fun hs_ => fun e_ => Nat.not_le.2 hs_ (Kd.R_base HO656.out k_ e_.symm)) (fun hn_ => (Kd.fresh' (Kd.R_lt (rd_ HO656.out)) k_ hn_)), Or.elim hk_ (fun hs_ => fun e_ => Nat.not_le.2 hs_ (by rw [e_]; exact GW639.out)) (fun hn_ => (Kd.freshB (g := gb639) (o := .cells #[.int .i64 a0_0, .slice A0_1 l0_1.length c0_1] 24 (0, 0)) (bk_ BK639.out) k_ hn_)), Or.elim hk_ (fun hs_ => fun e_ => Nat.not_le.2 hs_ (by rw [e_]; exact GW646.out)) (fun hn_ => (Kd.freshB (g := gb646) (o := .cells #[.int .i64 t641, .slice Ao36 t642.length co36] 24 (0, 0)) (bk_ BK646.out) k_ hn_)), Or.elim hk_ (fun hs_ => fun e_ => Nat.not_le.2 hs_ (by rw [e_]; exact GW652.out)) (fun hn_ => (Kd.freshB (g := gb652) (o := .cells #[.int .i64 t647, .slice Ao43 t648.length co43] 24 (0, 0)) (bk_ BK652.out) k_ hn_)), Or.elim hk_ (fun hs_ => fun e_ => Nat.not_le.2 hs_ (by rw [e_]; exact GW658.out)) (fun hn_ => (Kd.freshB (g := gb658) (o := .cells #[.int .i64 t653, .slice Ao51 t654.length co51] 24 (0, 0)) (bk_ BK658.out) k_ hn_)), Or.elim hk_ (fun hs_ => fun e_ => Nat.not_le.2 hs_ (by rw [e_]; exact GW662.out)) (fun hn_ => (Kd.freshB (g := gb662) (o := .cells #[.int .i64 t659, .int .i64 t660] 39 (0, 0)) (bk_ BK662.out) k_ hn_))⟩)) (below_size HB_))) (a_ (bb_ BK639 hb) (a_ (bb_ BK646 hb) (a_ (bb_ BK652 hb) (a_ (bb_ BK658 hb) (a_ (bb_ BK662 hb) (bs_ HB hb)))))))))
  clear HO644 HO650 HO656 BK639 BK646 BK652 BK658 BK662 HB
  obtain ⟨HO644, HO650, HO656, HO673, BK639, BK646, BK652, BK658, BK662, HB⟩ := n_
  (try clear hb)
  (try clear hb2)
  (try clear hk)
  (try clear hi)
  (try clear ho0)
  obtain ⟨Ao70, co70, eo70⟩ := Kd.V_slice HO673.out
  (first | subst eo70 | (injection eo70 with f1_ f2_ f3_; have f4_ := f1_.symm; have f5_ := f3_.symm; clear f1_ f2_ f3_; subst f4_; subst f5_))
  refine hK.out _ _ ⟨(blk_cell BK662.out 0).trans rfl, (blk_cell BK662.out 1).trans rfl, (blk_cell BK639.out 0).trans rfl, (blk_cell BK639.out 1).trans rfl, (blk_cell BK652.out 0).trans rfl, (blk_cell BK652.out 1).trans rfl⟩ (fun hHeld => ?_)
  clear hK K
  refine nm_ ?_
  refine on_ 12 (some 155) (fun K hK => ?_)
  refine goes_ Try.func17 (by kernel_rfl) rfl #[.agg #[.int .i64 t647, .slice Ao43 t648.length co43], .agg #[.int .i64 t670, .slice Ao70 t671.length co70]] (by rfl) rfl rfl MP_ ?_
  with_reducible refine (warrantorref08_Same.calls k t647 _ _ t648 t670 _ _ t671 true _ ?side1 ?side2 ?side3 ?side4 A27.out).mono ?_
  (case side1 => repeat (first | exact (Kd.R_reads' HO650.out).2.2 | (with_reducible refine Kd.C_alloc ?_ _) | (with_reducible refine Kd.C_drewN ?_ _) | (with_reducible refine Kd.C_drew ?_)))
  (case side2 => exact (Kd.R_reads' HO650.out).2.1)
  (case side3 => repeat (first | exact (Kd.V_reads' HO673.out).2.2 | (with_reducible refine Kd.C_alloc ?_ _) | (with_reducible refine Kd.C_drewN ?_ _) | (with_reducible refine Kd.C_drew ?_)))
  (case side4 => exact (Kd.V_reads' HO673.out).2.1)
  rintro e w71 ⟨rfl, hb⟩
  refine ⟨_, rfl, ?_⟩
  have n_ := a_ (rb_ HO644 hb) (a_ (rb_ HO650 hb) (a_ (rb_ HO656 hb) (a_ (Aside0.mk (Kd.V_below (by (with_reducible repeat (first | apply Kd.V_alloc | apply Kd.V_drewN | apply Kd.V_drew)); exact HO673.out) hb)) (a_ (bb_ BK639 hb) (a_ (bb_ BK646 hb) (a_ (bb_ BK652 hb) (a_ (bb_ BK658 hb) (a_ (bb_ BK662 hb) (bs_ HB hb)))))))))
  clear HO644 HO650 HO656 HO673 BK639 BK646 BK652 BK658 BK662 HB
  obtain ⟨HO644, HO650, HO656, HO673, BK639, BK646, BK652, BK658, BK662, HB⟩ := n_
  (try clear hb)
  (try clear hb2)
  (try clear hk)
  (try clear hi)
  refine hK.out _ _ ⟨(blk_cell BK662.out 0).trans rfl, (blk_cell BK662.out 1).trans rfl, (blk_cell BK639.out 0).trans rfl, (blk_cell BK639.out 1).trans rfl, (blk_cell BK652.out 0).trans rfl, (blk_cell BK652.out 1).trans rfl⟩ (fun hHeld => ?_)
  clear hK K
  refine nm_ ?_
  refine pu_ 13 (some 156) ?_
  refine pu_ 14 (some 157) ?_
  refine pu_ 15 (some 158) ?_
  refine done_ (done_of HT_.out (by kernel_rfl)) ?_
  try go_wp2
  have n_ := a_ (Aside0.mk (Kd.R_drew HO644.out)) (a_ (Aside0.mk (Kd.R_drew HO650.out)) (a_ (Aside0.mk (Kd.R_drew HO656.out)) (a_ (Aside0.mk (Kd.V_drew HO673.out)) (a_ (Aside0.mk (blk_drew BK639.out)) (a_ (Aside0.mk (blk_drew BK646.out)) (a_ (Aside0.mk (blk_drew BK652.out)) (a_ (Aside0.mk (blk_drew BK658.out)) (a_ (Aside0.mk (blk_drew BK662.out)) (Aside0.mk (below_drew1 HB.out))))))))))
  clear HO644 HO650 HO656 HO673 BK639 BK646 BK652 BK658 BK662 HB
  obtain ⟨HO644, HO650, HO656, HO673, BK639, BK646, BK652, BK658, BK662, HB⟩ := n_
  refine start_ (n := 29) (S := fun w' => True) (ds := []) #[false, false, false, false, false, false, false, false, false, false, false, false, false, false, false, false, false, false, false, false, false, false, false, false, false, false, false, false, false] (by kernel_rfl) rfl rfl trivial (fun hHeld => ?_); refine with_tabW warrantorlaw09_ZoneOne_v2.tab18 warrantorlaw09_ZoneOne_v2.bits18 (fun HT_ HW_ => ?_)
  generalize w71.drew = w72 at HO644 HO650 HO656 HO673 BK639 BK646 BK652 BK658 BK662 HB hHeld ⊢
  refine pu_ 0 (some 159) ?_
  refine pu_ 1 (some 160) ?_
  refine pu_ 2 (some 161) ?_
  refine pv_ 3 (some 162) ?_
  refine pv_ 4 (some 163) ?_
  refine pv_ 5 (some 164) ?_
  refine pv_ 6 (some 165) ?_
  refine pv_ 7 (some 166) ?_
  refine pv_ 8 (some 167) ?_
  refine pv_ 9 (some 168) ?_
  refine pu_ 10 (some 169) ?_
  refine pu_ 11 (some 170) ?_
  refine pu_ 12 (some 171) ?_
  refine pu_ 13 (some 172) ?_
  refine pu_ 14 (some 173) ?_
  refine pv_ 15 (some 174) ?_
  refine pv_ 16 (some 175) ?_
  refine pu_ 17 (some 176) ?_
  refine pu_ 18 (some 177) ?_
  refine pv_ 19 (some 178) ?_
  refine pv_ 20 (some 179) ?_
  refine pv_ 21 (some 180) ?_
  refine pv_ 22 (some 181) ?_
  refine pv_ 23 (some 182) ?_
  refine pv_ 24 (some 183) ?_
  refine pv_ 25 (some 184) ?_
  refine pu_ 26 (some 185) ?_
  refine pu_ 27 (some 186) ?_
  refine pu_ 28 (some 8) ?_
  refine done_ (done_of HT_.out (by kernel_rfl)) ?_
  try go_wp2
  go_ret
  exact ⟨by first | rfl | (simp [errW_none, errW_some] <;> rfl) | (simp [*, errW_none, errW_some] <;> rfl), HB_⟩
end Go.Proofs.Ytgeemdpflcefkaa.Z

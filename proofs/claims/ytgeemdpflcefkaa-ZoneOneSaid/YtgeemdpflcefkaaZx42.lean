-- WRITTEN BY this session's program wip/ext.py, in print.py's manner
import Derived.Test.YtgeemdpflcefkaaZx0
import Derived.Test.YtgeemdpflcefkaaZx1
import Derived.Test.YtgeemdpflcefkaaZx3
import Derived.Test.YtgeemdpflcefkaaZx15
import Derived.Test.YtgeemdpflcefkaaZx16
import Derived.Test.YtgeemdpflcefkaaZx17
import Derived.Test.YtgeemdpflcefkaaZx19
import Derived.Test.YtgeemdpflcefkaaZx33
import Derived.Test.YtgeemdpflcefkaaZx35
import Derived.Test.YtgeemdpflcefkaaZx39
import Derived.Test.YtgeemdpflcefkaaZx40
namespace Go.Proofs.Ytgeemdpflcefkaa.Z
open Go.RowKit Go.Proofs.YtgeemdpflcefkaaW.PrintWords Go.Proofs.YtgeemdpflcefkaaW.PrintLast Go.Proofs.YtgeemdpflcefkaaW.PrintMore
attribute [local go_sem] max2_int min2_int max_two min_two max_three min_three max_four min_four   -- for this text's walks alone
set_option linter.unusedVariables false
set_option linter.unusedSimpArgs false

attribute [local go_sem high] eqA39
/-! ### warrantorlaw09_ZoneOne_v1: function 4 -/
def warrantorlaw09_ZoneOne_v1.f (k : Nat) (a0_0 : Int) (l0_1 : List Int) (a1 : Int) (a2 : Int) (a3 : Int) : Option (Bool) := (warrantorref08_Large.f l0_1).bind fun t594 => (if t594 = true then (none) else ((zone_Limit.f k a0_0 l0_1 a1 a2 a3).bind fun bt595 => ((zone_Forget.f k a0_0 l0_1 a1).bind fun bt601 => ((zone_Let.f k a0_0 l0_1 a1 a2 a3).bind fun bt607 => ((zone_Itv.f k a0_0 l0_1 a1).bind fun bt613 => ((warrantorlaw09_lives.f k).bind fun t617 => (if t617 = true then ((warrantorref08_Check.f k a0_0 l0_1).bind fun t618 => (if t618 = true then ((warrantorref09_Var.f a0_0 l0_1 a1).bind fun t619 => ((warrantorref09_Or0.f a0_0 l0_1 a1).bind fun t620 => ((warrantorref09_Or0.f a0_0 l0_1 a2).bind fun t621 => (if t620 = true then (if ((bt595.2.2 == 0) != t621) = true then (none) else (if ((bt601.2.2 == 0) != t619) = true then (none) else (if t619 = true then (if ((bt607.2.2 == 0) != t621) = true then (none) else (if ((bt613.2.2 == 0) != t620) = true then (none) else ((warrantorref09_Itv.f a0_0 l0_1 a1).bind fun bt622 => (if (!(bt613.1 == bt622.1) || (!(bt613.2.1 == bt622.2))) = true then (none) else ((warrantorref09_Forget.f k a0_0 l0_1 a1).bind fun bt624 => ((warrantorref08_Same.f k bt601.1 bt601.2.1 bt624.1 bt624.2).bind fun t628 => (if t628 = true then (if t621 = true then ((warrantorref09_Limit.f k a0_0 l0_1 a1 a2 a3).bind fun bt629 => ((warrantorref08_Same.f k bt595.1 bt595.2.1 bt629.1 bt629.2).bind fun t633 => (if t633 = true then ((warrantorref09_Let.f k a0_0 l0_1 a1 a2 a3).bind fun bt634 => ((warrantorref08_Same.f k bt607.1 bt607.2.1 bt634.1 bt634.2).bind fun t638 => (some t638))) else (none)))) else (none)) else (none)))))))) else (none)))) else (none))))) else (none))) else (none))))))))
theorem warrantorlaw09_ZoneOne_v1.mono : ∀ a0 a1 a2 a3 a4 k, LeO (warrantorlaw09_ZoneOne_v1.f k a0 a1 a2 a3 a4) (warrantorlaw09_ZoneOne_v1.f (k + 1) a0 a1 a2 a3 a4) := by
  intro a0 a1 a2 a3 a4 k
  unfold warrantorlaw09_ZoneOne_v1.f
  repeat' first
      | (with_reducible exact warrantorlaw09_lives.mono _)
      | (with_reducible exact warrantorref08_Check.mono _ _ _)
      | (with_reducible exact warrantorref08_Same.mono _ _ _ _ _)
      | (with_reducible exact warrantorref09_Forget.mono _ _ _ _)
      | (with_reducible exact warrantorref09_Let.mono _ _ _ _ _ _)
      | (with_reducible exact warrantorref09_Limit.mono _ _ _ _ _ _)
      | (with_reducible exact zone_Forget.mono _ _ _ _)
      | (with_reducible exact zone_Itv.mono _ _ _ _)
      | (with_reducible exact zone_Let.mono _ _ _ _ _ _)
      | (with_reducible exact zone_Limit.mono _ _ _ _ _ _)
      | (with_reducible exact LeO.refl _)
      | (with_reducible exact LeO.none _)
      | (with_reducible refine LeO.ite ?_ ?_)
      | (with_reducible refine LeO.bind ?_ (fun _ => ?_))
      | exact warrantorlaw09_lives.mono _
      | exact warrantorref08_Check.mono _ _ _
      | exact warrantorref08_Same.mono _ _ _ _ _
      | exact warrantorref09_Forget.mono _ _ _ _
      | exact warrantorref09_Let.mono _ _ _ _ _ _
      | exact warrantorref09_Limit.mono _ _ _ _ _ _
      | exact zone_Forget.mono _ _ _ _
      | exact zone_Itv.mono _ _ _ _
      | exact zone_Let.mono _ _ _ _ _ _
      | exact zone_Limit.mono _ _ _ _ _ _
      | exact LeO.none _
      | refine LeO.ite ?_ ?_
      | refine LeO.bind ?_ (fun _ => ?_)
def warrantorlaw09_ZoneOne_v1.T11 : Bool × List (List Nat × List Nat) := (true, [([], []), ([], []), ([0, 1], [0, 1]), ([], []), ([], []), ([3, 4, 2], [3, 4]), ([], []), ([], []), ([6, 7, 5], [6, 7]), ([2, 8, 0, 1, 2], [2]), ([5, 9, 0, 1, 2, 3, 4, 5, 9], [5]), ([8, 10, 0, 1, 2, 3, 4, 5, 6, 7, 8, 9, 10], [8])])
def warrantorlaw09_ZoneOne_v1.B11 : List Nat := [0, 0, 3, 0, 0, 31, 0, 0, 255, 511, 1023, 2047]
theorem warrantorlaw09_ZoneOne_v1.tab11 : rtab .any (opsOf Try.f4 11) = warrantorlaw09_ZoneOne_v1.T11 := by kernel_rfl
theorem warrantorlaw09_ZoneOne_v1.bits11 : waitsOk warrantorlaw09_ZoneOne_v1.T11.2 warrantorlaw09_ZoneOne_v1.B11 = true := by kernel_rfl
def warrantorlaw09_ZoneOne_v1.T16 : Bool × List (List Nat × List Nat) := (true, [([], []), ([], []), ([], []), ([1, 2], [1, 2]), ([0, 3], [0, 3]), ([4, 3], [4]), ([5], [5]), ([6, 5, 5], [5, 6]), ([7], [7]), ([7], [7]), ([7], [7]), ([9, 10, 7, 7], [7, 9, 10]), ([8, 11, 11, 7], [7, 8, 11]), ([12, 7], [7, 12]), ([7, 13, 5], [5, 7, 13]), ([5, 14], [5, 14])])
def warrantorlaw09_ZoneOne_v1.B16 : List Nat := [0, 0, 0, 6, 15, 31, 63, 127, 255, 255, 255, 1791, 4095, 8191, 16383, 32767]
theorem warrantorlaw09_ZoneOne_v1.tab16 : rtab .any (opsOf Try.f4 16) = warrantorlaw09_ZoneOne_v1.T16 := by kernel_rfl
theorem warrantorlaw09_ZoneOne_v1.bits16 : waitsOk warrantorlaw09_ZoneOne_v1.T16.2 warrantorlaw09_ZoneOne_v1.B16 = true := by kernel_rfl
def warrantorlaw09_ZoneOne_v1.T18 : Bool × List (List Nat × List Nat) := (true, [([], []), ([0], [0]), ([1], [1]), ([2], [2]), ([2], [2]), ([2], [2]), ([2], [2]), ([2], [2]), ([4, 5, 6, 7, 2, 2], [2, 4, 5, 6, 7]), ([3, 8, 8, 2], [2, 3, 8]), ([2, 9], [2, 9]), ([10, 9], [10]), ([11], [11]), ([12, 11], [11, 12]), ([13, 11, 11], [11, 13]), ([14], [14]), ([15, 14], [14, 15]), ([14, 16, 11], [11, 14, 16]), ([17, 14, 11], [11, 17]), ([18], [18]), ([18], [18]), ([18], [18]), ([18], [18]), ([18], [18]), ([20, 21, 22, 23, 18, 18], [18, 20, 21, 22, 23]), ([19, 24, 24, 18], [18, 19, 24]), ([18, 25, 11], [11, 18, 25]), ([11, 26], [11, 26]), ([27, 25, 0, 1, 2, 3, 4, 5, 6, 7, 8, 9, 10, 11, 12, 13, 14, 15, 16, 17, 18, 19, 20, 21, 22, 23, 24, 25, 26, 27], [27])])
def warrantorlaw09_ZoneOne_v1.B18 : List Nat := [0, 1, 3, 7, 7, 7, 7, 7, 247, 511, 1023, 2047, 4095, 8191, 16383, 32767, 65535, 131071, 262143, 524287, 524287, 524287, 524287, 524287, 16252927, 33554431, 67108863, 134217727, 268435455]
theorem warrantorlaw09_ZoneOne_v1.tab18 : rtab .any (opsOf Try.f4 18) = warrantorlaw09_ZoneOne_v1.T18 := by kernel_rfl
theorem warrantorlaw09_ZoneOne_v1.bits18 : waitsOk warrantorlaw09_ZoneOne_v1.T18.2 warrantorlaw09_ZoneOne_v1.B18 = true := by kernel_rfl
set_option maxHeartbeats 8000000 in
set_option maxRecDepth 100000 in
theorem warrantorlaw09_ZoneOne_v1.calls (k : Nat) (a0_0 : Int) (A0_1 : Option Addr) (c0_1 : Nat) (l0_1 : List Int) (a1 : Int) (a2 : Int) (a3 : Int) (r : Bool) (w : World) (hr0_1 : Kd.C (Kd.int .i64) w A0_1 l0_1.length l0_1) (hc0_1 : l0_1.length ≤ c0_1) (h : warrantorlaw09_ZoneOne_v1.f k a0_0 l0_1 a1 a2 a3 = some r) :
    Calls Try.prog 4 #[.agg #[.int .i64 a0_0, .slice A0_1 l0_1.length c0_1], .int .i64 a1, .int .i64 a2, .int .i64 a3] w fun e w' => e = .returned (.bool r) ∧ Below w.heap.size w w' := by
  have hu24 := Try.underlying24
  have hu39 := Try.underlying39
  have HR0_1 := Aside0.mk hr0_1
  have HC0_1 := Aside0.mk hc0_1
  clear hr0_1 hc0_1
  have HB := Aside0.mk (Below.refl w.heap.size w)
  have H : ((warrantorref08_Large.f l0_1).bind fun t594 => (if t594 = true then (none) else ((zone_Limit.f k a0_0 l0_1 a1 a2 a3).bind fun bt595 => ((zone_Forget.f k a0_0 l0_1 a1).bind fun bt601 => ((zone_Let.f k a0_0 l0_1 a1 a2 a3).bind fun bt607 => ((zone_Itv.f k a0_0 l0_1 a1).bind fun bt613 => ((warrantorlaw09_lives.f k).bind fun t617 => (if t617 = true then ((warrantorref08_Check.f k a0_0 l0_1).bind fun t618 => (if t618 = true then ((warrantorref09_Var.f a0_0 l0_1 a1).bind fun t619 => ((warrantorref09_Or0.f a0_0 l0_1 a1).bind fun t620 => ((warrantorref09_Or0.f a0_0 l0_1 a2).bind fun t621 => (if t620 = true then (if ((bt595.2.2 == 0) != t621) = true then (none) else (if ((bt601.2.2 == 0) != t619) = true then (none) else (if t619 = true then (if ((bt607.2.2 == 0) != t621) = true then (none) else (if ((bt613.2.2 == 0) != t620) = true then (none) else ((warrantorref09_Itv.f a0_0 l0_1 a1).bind fun bt622 => (if (!(bt613.1 == bt622.1) || (!(bt613.2.1 == bt622.2))) = true then (none) else ((warrantorref09_Forget.f k a0_0 l0_1 a1).bind fun bt624 => ((warrantorref08_Same.f k bt601.1 bt601.2.1 bt624.1 bt624.2).bind fun t628 => (if t628 = true then (if t621 = true then ((warrantorref09_Limit.f k a0_0 l0_1 a1 a2 a3).bind fun bt629 => ((warrantorref08_Same.f k bt595.1 bt595.2.1 bt629.1 bt629.2).bind fun t633 => (if t633 = true then ((warrantorref09_Let.f k a0_0 l0_1 a1 a2 a3).bind fun bt634 => ((warrantorref08_Same.f k bt607.1 bt607.2.1 bt634.1 bt634.2).bind fun t638 => (some t638))) else (none)))) else (none)) else (none)))))))) else (none)))) else (none))))) else (none))) else (none))))))))) = some r := h
  clear h
  replace H := bd_ H
  obtain ⟨t594, A5, H⟩ := H
  (try dsimp only at H)
  by_cases c6 : t594 = true
  · subst c6
    replace H := ps1_ H
    exact absurd H (by simp)
  replace c6 := Bool.eq_false_iff.mpr c6
  subst c6
  replace H := ng1_ H
  replace H := bd_ H
  obtain ⟨⟨t595, t596, t599⟩, A7, H⟩ := H
  (try dsimp only at H)
  replace H := bd_ H
  obtain ⟨⟨t601, t602, t605⟩, A8, H⟩ := H
  (try dsimp only at H)
  replace H := bd_ H
  obtain ⟨⟨t607, t608, t611⟩, A9, H⟩ := H
  (try dsimp only at H)
  replace H := bd_ H
  obtain ⟨⟨t613, t614, t615⟩, A10, H⟩ := H
  (try dsimp only at H)
  replace H := bd_ H
  obtain ⟨t617, A11, H⟩ := H
  (try dsimp only at H)
  replace H := yes_ H
  obtain ⟨c12, H⟩ := H
  subst c12
  replace H := bd_ H
  obtain ⟨t618, A13, H⟩ := H
  (try dsimp only at H)
  replace H := yes_ H
  obtain ⟨c14, H⟩ := H
  subst c14
  replace H := bd_ H
  obtain ⟨t619, A15, H⟩ := H
  (try dsimp only at H)
  replace H := bd_ H
  obtain ⟨t620, A16, H⟩ := H
  (try dsimp only at H)
  replace H := bd_ H
  obtain ⟨t621, A17, H⟩ := H
  (try dsimp only at H)
  replace H := yes_ H
  obtain ⟨c18, H⟩ := H
  subst c18
  by_cases c19 : ((t599 == 0) != t621) = true
  · rw [if_pos c19] at H
    exact absurd H (by simp)
  rw [if_neg c19] at H
  have c19b0 : ((t599 == 0) != t621) = false := by simpa using c19
  (try (have c19b1 : decide ((t599 == 0) = t621) = true := by simpa using c19))
  (try (have c19b2 : ((t599 == 0) == t621) = true := by simpa using c19))
  clear c19
  by_cases c20 : ((t605 == 0) != t619) = true
  · rw [if_pos c20] at H
    exact absurd H (by simp)
  rw [if_neg c20] at H
  have c20b0 : ((t605 == 0) != t619) = false := by simpa using c20
  (try (have c20b1 : decide ((t605 == 0) = t619) = true := by simpa using c20))
  (try (have c20b2 : ((t605 == 0) == t619) = true := by simpa using c20))
  clear c20
  replace H := yes_ H
  obtain ⟨c21, H⟩ := H
  subst c21
  by_cases c22 : ((t611 == 0) != t621) = true
  · rw [if_pos c22] at H
    exact absurd H (by simp)
  rw [if_neg c22] at H
  have c22b0 : ((t611 == 0) != t621) = false := by simpa using c22
  (try (have c22b1 : decide ((t611 == 0) = t621) = true := by simpa using c22))
  (try (have c22b2 : ((t611 == 0) == t621) = true := by simpa using c22))
  clear c22
  by_cases c23 : ((t615 == 0) != true) = true
  · rw [if_pos c23] at H
    exact absurd H (by simp)
  rw [if_neg c23] at H
  have c23b0 : ((t615 == 0) != true) = false := by simpa using c23
  (try (have c23b1 : decide ((t615 == 0) = true) = true := by simpa using c23))
  (try (have c23b2 : ((t615 == 0) == true) = true := by simpa using c23))
  clear c23
  replace H := bd_ H
  obtain ⟨⟨t622, t623⟩, A24, H⟩ := H
  (try dsimp only at H)
  by_cases c25 : (!(t613 == t622) || (!(t614 == t623))) = true
  · rw [if_pos c25] at H
    exact absurd H (by simp)
  rw [if_neg c25] at H
  have c25b0 : (!(t613 == t622) || (!(t614 == t623))) = false := by simpa using c25
  clear c25
  replace H := bd_ H
  obtain ⟨⟨t624, t625⟩, A26, H⟩ := H
  (try dsimp only at H)
  replace H := bd_ H
  obtain ⟨t628, A27, H⟩ := H
  (try dsimp only at H)
  replace H := yes_ H
  obtain ⟨c28, H⟩ := H
  subst c28
  replace H := yes_ H
  obtain ⟨c29, H⟩ := H
  subst c29
  replace H := bd_ H
  obtain ⟨⟨t629, t630⟩, A30, H⟩ := H
  (try dsimp only at H)
  replace H := bd_ H
  obtain ⟨t633, A31, H⟩ := H
  (try dsimp only at H)
  replace H := yes_ H
  obtain ⟨c32, H⟩ := H
  subst c32
  replace H := bd_ H
  obtain ⟨⟨t634, t635⟩, A33, H⟩ := H
  (try dsimp only at H)
  replace H := bd_ H
  obtain ⟨t638, A34, H⟩ := H
  (try dsimp only at H)
  obtain rfl := Option.some.inj H
  go_enter Try.func4, Try.ntmps4
  try go_wp2_with (first | ((with_reducible refine gate_dst (N := 4) rfl ?_); (try (refine gate_guard (by rfl) ?_; dsimp only)); refine bx_ (N := 4) (cs := #[.int .i64 a0_0, .slice A0_1 l0_1.length c0_1]) (t := 24) ?_; intro gb593 hg w35 hbox hb; have n_ := a_ (bs_ HB hb) (a_ (Aside0.mk hbox) (a_ (gs_ HB hg) (gs_ HB hg))); clear HB; obtain ⟨HB, BK593, GW593, GE593⟩ := n_; clear hb hbox hg; obtain ⟨hcz36_0, hcz36_1, hfz36_0, hfz36_1⟩ := cz2_ BK593) | ((with_reducible refine gate_callee (f := 12) rfl ?_); refine goesL_ (some 22) rfl rfl Try.func12 (by kernel_rfl) rfl #[.slice A0_1 l0_1.length c0_1] rfl MP_ ?_; (with_reducible refine (warrantorref08_Large.calls _ _ l0_1 false _ ?side1 ?side2 A5.out).mono ?_); (case side1 => exact sd_ (Kd.C_below HR0_1.out HB.out)); (case side2 => exact HC0_1.out); rintro e w' ⟨rfl, ⟨nd, rfl⟩⟩; refine ⟨_, rfl, ?_⟩; (try (rw [drewN_self w35]; generalize hq_ : World.drewN w35 _ = w35; have n0_ : Aside0 (w35.heap[gb593]? = some (.cells #[.int .i64 a0_0, .slice A0_1 l0_1.length c0_1] 24 (0, 0))) := ⟨by rw [← hq_]; exact (bk_ BK593.out)⟩; have n1_ : Aside0 (Below w.heap.size w w35) := ⟨by rw [← hq_]; exact HB_⟩; clear BK593 HB hq_; have BK593 := n0_; have HB := n1_; clear n0_ n1_; (try (obtain ⟨hczu_gb593_0, hczu_gb593_1, hfzu_gb593_0, hfzu_gb593_1⟩ := cz2_ BK593))))) | ((with_reducible refine gate_callee (f := 23) rfl ?_); refine goesL_ (some 29) rfl rfl Try.func23 (by kernel_rfl) rfl #[.agg #[.int .i64 a0_0, .slice A0_1 l0_1.length c0_1], .int .i64 a1, .int .i64 a2, .int .i64 a3] rfl MP_ ?_; (with_reducible refine (zone_Limit.calls k a0_0 _ _ l0_1 a1 a2 a3 t595 t596 t599 _ ?side1 ?side2 A7.out).mono ?_); (case side1 => exact sd_ (Kd.C_below HR0_1.out HB.out)); (case side2 => exact HC0_1.out); rintro e w37 ⟨v597, rfl, ho0, hb⟩; refine ⟨_, rfl, ?_⟩; have n_ := a_ (Aside0.mk (Kd.R_lower ho0 (below_size HB_))) (a_ (bb_ BK593 hb) (bs_ HB hb)); clear BK593 HB; obtain ⟨HO598, BK593, HB⟩ := n_; (try clear hb); (try clear hb2); (try clear hk); (try clear hi); (try clear ho0)) | ((with_reducible refine gate_dst (N := 9) rfl ?_); (try (refine gate_guard (by rfl) ?_; dsimp only)); refine bx_ (N := 9) (cs := #[.int .i64 0, .slice none 0 0]) (t := 24) ?_; intro gb600 hg w38 hbox hb; have n_ := a_ (rb_ HO598 hb) (a_ (bb_ BK593 hb) (a_ (bs_ HB hb) (a_ (Aside0.mk hbox) (a_ (gs_ HB hg) (a_ (gs_ HB hg) (a_ (nl_ BK593 hg) (ng_ BK593 hg))))))); clear HO598 BK593 HB; obtain ⟨HO598, BK593, HB, BK600, GW600, GE600, NB593_600, NB600_593⟩ := n_; clear hb hbox hg; have hnb39 := NB600_593.out; have hnc39 := NB593_600.out; obtain ⟨hcz40_0, hcz40_1, hfz40_0, hfz40_1⟩ := cz2_ BK600; obtain ⟨Ao41, co41, eo41⟩ := Kd.R_slice HO598.out; subst eo41; obtain ⟨hcz42_0, hcz42_1, hfz42_0, hfz42_1⟩ := cz2_ BK593) | ((with_reducible refine gate_callee (f := 24) rfl ?_); refine goesL_ (some 35) rfl rfl Try.func24 (by kernel_rfl) rfl #[.agg #[.int .i64 a0_0, .slice A0_1 l0_1.length c0_1], .int .i64 a1] rfl MP_ ?_; (with_reducible refine (zone_Forget.calls k a0_0 _ _ l0_1 a1 t601 t602 t605 _ ?side1 ?side2 A8.out).mono ?_); (case side1 => exact Kd.C_below HR0_1.out HB_); (case side2 => exact HC0_1.out); rintro e w43 ⟨v603, rfl, ho0, hb⟩; refine ⟨_, rfl, ?_⟩; have n_ := a_ (Aside0.mk (Kd.R_elder' (rd_ (rf2_ HO598 BK600 (.int .i64 t595) (.slice Ao41 t596.length co41))) (Kd.R_base ho0) hb)) (a_ (Aside0.mk (Kd.R_lower (Kd.R_new' ho0 (Kd.R_lt (rd_ (rf2_ HO598 BK600 (.int .i64 t595) (.slice Ao41 t596.length co41))))) (below_size HB_))) (a_ (bc_ #[.int .i64 a0_0, .slice A0_1 l0_1.length c0_1] 24 BK593 hb) (a_ (bc_ #[.int .i64 t595, .slice Ao41 t596.length co41] 24 BK600 hb) (bs_ HB hb)))); clear HO598 BK593 BK600 HB; obtain ⟨HO598, HO604, BK593, BK600, HB⟩ := n_; (try clear hb); (try clear hb2); (try clear hk); (try clear hi); (try clear ho0)) | ((with_reducible refine gate_dst (N := 11) rfl ?_); (try (refine gate_guard (by rfl) ?_; dsimp only)); refine bx_ (N := 11) (cs := #[.int .i64 0, .slice none 0 0]) (t := 24) ?_; intro gb606 hg w44 hbox hb; have n_ := a_ (rb_ HO598 hb) (a_ (rb_ HO604 hb) (a_ (bb_ BK593 hb) (a_ (bb_ BK600 hb) (a_ (bs_ HB hb) (a_ (Aside0.mk hbox) (a_ (gs_ HB hg) (a_ (gs_ HB hg) (a_ (nl_ BK593 hg) (a_ (ng_ BK593 hg) (a_ (nl_ BK600 hg) (ng_ BK600 hg))))))))))); clear HO598 HO604 BK593 BK600 HB; obtain ⟨HO598, HO604, BK593, BK600, HB, BK606, GW606, GE606, NB593_606, NB606_593, NB600_606, NB606_600⟩ := n_; clear hb hbox hg; have hnb45 := NB606_593.out; have hnc45 := NB593_606.out; have hnb46 := NB606_600.out; have hnc46 := NB600_606.out; obtain ⟨hcz47_0, hcz47_1, hfz47_0, hfz47_1⟩ := cz2_ BK606; obtain ⟨Ao48, co48, eo48⟩ := Kd.R_slice HO604.out; subst eo48; obtain ⟨hcz49_0, hcz49_1, hfz49_0, hfz49_1⟩ := cz2_ BK593) | ((with_reducible refine gate_callee (f := 25) rfl ?_); refine goesL_ (some 43) rfl rfl Try.func25 (by kernel_rfl) rfl #[.agg #[.int .i64 a0_0, .slice A0_1 l0_1.length c0_1], .int .i64 a1, .int .i64 a2, .int .i64 a3] rfl MP_ ?_; (with_reducible refine (zone_Let.calls k a0_0 _ _ l0_1 a1 a2 a3 t607 t608 t611 _ ?side1 ?side2 A9.out).mono ?_); (case side1 => exact Kd.C_below HR0_1.out HB_); (case side2 => exact HC0_1.out); rintro e w50 ⟨v609, rfl, ho0, hb⟩; refine ⟨_, rfl, ?_⟩; have n_ := a_ (Aside0.mk (Kd.R_elder' (rd_ (rf2_ HO598 BK606 (.int .i64 t601) (.slice Ao48 t602.length co48))) (Kd.R_base ho0) hb)) (a_ (Aside0.mk (Kd.R_elder' (rd_ (rf2_ HO604 BK606 (.int .i64 t601) (.slice Ao48 t602.length co48))) (Kd.R_base ho0) hb)) (a_ (Aside0.mk (Kd.R_lower (Kd.R_new' (Kd.R_new' ho0 (Kd.R_lt (rd_ (rf2_ HO598 BK606 (.int .i64 t601) (.slice Ao48 t602.length co48))))) (Kd.R_lt (rd_ (rf2_ HO604 BK606 (.int .i64 t601) (.slice Ao48 t602.length co48))))) (below_size HB_))) (a_ (bc_ #[.int .i64 a0_0, .slice A0_1 l0_1.length c0_1] 24 BK593 hb) (a_ (bc_ #[.int .i64 t595, .slice Ao41 t596.length co41] 24 BK600 hb) (a_ (bc_ #[.int .i64 t601, .slice Ao48 t602.length co48] 24 BK606 hb) (bs_ HB hb)))))); clear HO598 HO604 BK593 BK600 BK606 HB; obtain ⟨HO598, HO604, HO610, BK593, BK600, BK606, HB⟩ := n_; (try clear hb); (try clear hb2); (try clear hk); (try clear hi); (try clear ho0)) | ((with_reducible refine gate_dst (N := 13) rfl ?_); (try (refine gate_guard (by rfl) ?_; dsimp only)); refine bx_ (N := 13) (cs := #[.int .i64 0, .slice none 0 0]) (t := 24) ?_; intro gb612 hg w51 hbox hb; have n_ := a_ (rb_ HO598 hb) (a_ (rb_ HO604 hb) (a_ (rb_ HO610 hb) (a_ (bb_ BK593 hb) (a_ (bb_ BK600 hb) (a_ (bb_ BK606 hb) (a_ (bs_ HB hb) (a_ (Aside0.mk hbox) (a_ (gs_ HB hg) (a_ (gs_ HB hg) (a_ (nl_ BK593 hg) (a_ (ng_ BK593 hg) (a_ (nl_ BK600 hg) (a_ (ng_ BK600 hg) (a_ (nl_ BK606 hg) (ng_ BK606 hg))))))))))))))); clear HO598 HO604 HO610 BK593 BK600 BK606 HB; obtain ⟨HO598, HO604, HO610, BK593, BK600, BK606, HB, BK612, GW612, GE612, NB593_612, NB612_593, NB600_612, NB612_600, NB606_612, NB612_606⟩ := n_; clear hb hbox hg; have hnb52 := NB612_593.out; have hnc52 := NB593_612.out; have hnb53 := NB612_600.out; have hnc53 := NB600_612.out; have hnb54 := NB612_606.out; have hnc54 := NB606_612.out; obtain ⟨hcz55_0, hcz55_1, hfz55_0, hfz55_1⟩ := cz2_ BK612; obtain ⟨Ao56, co56, eo56⟩ := Kd.R_slice HO610.out; subst eo56; obtain ⟨hcz57_0, hcz57_1, hfz57_0, hfz57_1⟩ := cz2_ BK593) | ((with_reducible refine gate_callee (f := 26) rfl ?_); refine goesL_ (some 49) rfl rfl Try.func26 (by kernel_rfl) rfl #[.agg #[.int .i64 a0_0, .slice A0_1 l0_1.length c0_1], .int .i64 a1] rfl MP_ ?_; (with_reducible refine (zone_Itv.calls k a0_0 _ _ l0_1 a1 t613 t614 t615 _ ?side1 ?side2 A10.out).mono ?_); (case side1 => exact Kd.C_below HR0_1.out HB_); (case side2 => exact HC0_1.out); rintro e w58 ⟨rfl, hb⟩; refine ⟨_, rfl, ?_⟩; have n_ := a_ (Aside0.mk (Kd.R_below (rd_ (rf2_ HO598 BK612 (.int .i64 t607) (.slice Ao56 t608.length co56))) hb)) (a_ (Aside0.mk (Kd.R_below (rd_ (rf2_ HO604 BK612 (.int .i64 t607) (.slice Ao56 t608.length co56))) hb)) (a_ (Aside0.mk (Kd.R_below (rd_ (rf2_ HO610 BK612 (.int .i64 t607) (.slice Ao56 t608.length co56))) hb)) (a_ (bc_ #[.int .i64 a0_0, .slice A0_1 l0_1.length c0_1] 24 BK593 hb) (a_ (bc_ #[.int .i64 t595, .slice Ao41 t596.length co41] 24 BK600 hb) (a_ (bc_ #[.int .i64 t601, .slice Ao48 t602.length co48] 24 BK606 hb) (a_ (bc_ #[.int .i64 t607, .slice Ao56 t608.length co56] 24 BK612 hb) (bs_ HB hb))))))); clear HO598 HO604 HO610 BK593 BK600 BK606 BK612 HB; obtain ⟨HO598, HO604, HO610, BK593, BK600, BK606, BK612, HB⟩ := n_; (try clear hb); (try clear hb2); (try clear hk); (try clear hi)) | ((with_reducible refine gate_dst (N := 15) rfl ?_); (try (refine gate_guard (by rfl) ?_; dsimp only)); refine bx_ (N := 15) (cs := #[.int .i64 0, .int .i64 0]) (t := 39) ?_; intro gb616 hg w59 hbox hb; have n_ := a_ (rb_ HO598 hb) (a_ (rb_ HO604 hb) (a_ (rb_ HO610 hb) (a_ (bb_ BK593 hb) (a_ (bb_ BK600 hb) (a_ (bb_ BK606 hb) (a_ (bb_ BK612 hb) (a_ (bs_ HB hb) (a_ (Aside0.mk hbox) (a_ (gs_ HB hg) (a_ (gs_ HB hg) (a_ (nl_ BK593 hg) (a_ (ng_ BK593 hg) (a_ (nl_ BK600 hg) (a_ (ng_ BK600 hg) (a_ (nl_ BK606 hg) (a_ (ng_ BK606 hg) (a_ (nl_ BK612 hg) (ng_ BK612 hg)))))))))))))))))); clear HO598 HO604 HO610 BK593 BK600 BK606 BK612 HB; obtain ⟨HO598, HO604, HO610, BK593, BK600, BK606, BK612, HB, BK616, GW616, GE616, NB593_616, NB616_593, NB600_616, NB616_600, NB606_616, NB616_606, NB612_616, NB616_612⟩ := n_; clear hb hbox hg; have hnb60 := NB616_593.out; have hnc60 := NB593_616.out; have hnb61 := NB616_600.out; have hnc61 := NB600_616.out; have hnb62 := NB616_606.out; have hnc62 := NB606_616.out; have hnb63 := NB616_612.out; have hnc63 := NB612_616.out; obtain ⟨hcz64_0, hcz64_1, hfz64_0, hfz64_1⟩ := cz2_ BK616) | ((with_reducible refine gate_callee (f := 22) rfl ?_); refine goesL_ (some 52) rfl rfl Try.func22 (by kernel_rfl) rfl #[] rfl MP_ ?_; (with_reducible refine (warrantorlaw09_lives.calls k  true _ A11.out).mono ?_); rintro e w65 ⟨rfl, hb⟩; refine ⟨_, rfl, ?_⟩; have n_ := a_ (Aside0.mk (Kd.R_below (rd_ (rf2_ HO598 BK616 (.int .i64 t613) (.int .i64 t614))) hb)) (a_ (Aside0.mk (Kd.R_below (rd_ (rf2_ HO604 BK616 (.int .i64 t613) (.int .i64 t614))) hb)) (a_ (Aside0.mk (Kd.R_below (rd_ (rf2_ HO610 BK616 (.int .i64 t613) (.int .i64 t614))) hb)) (a_ (bc_ #[.int .i64 a0_0, .slice A0_1 l0_1.length c0_1] 24 BK593 hb) (a_ (bc_ #[.int .i64 t595, .slice Ao41 t596.length co41] 24 BK600 hb) (a_ (bc_ #[.int .i64 t601, .slice Ao48 t602.length co48] 24 BK606 hb) (a_ (bc_ #[.int .i64 t607, .slice Ao56 t608.length co56] 24 BK612 hb) (a_ (bc_ #[.int .i64 t613, .int .i64 t614] 39 BK616 hb) (bs_ HB hb)))))))); clear HO598 HO604 HO610 BK593 BK600 BK606 BK612 BK616 HB; obtain ⟨HO598, HO604, HO610, BK593, BK600, BK606, BK612, BK616, HB⟩ := n_; (try clear hb); (try clear hb2); (try clear hk); (try clear hi); obtain ⟨hcz66_0, hcz66_1, hfz66_0, hfz66_1⟩ := cz2_ BK593) | ((with_reducible refine gate_callee (f := 27) rfl ?_); refine goesL_ (some 55) rfl rfl Try.func27 (by kernel_rfl) rfl #[.agg #[.int .i64 a0_0, .slice A0_1 l0_1.length c0_1]] rfl MP_ ?_; (with_reducible refine (warrantorref08_Check.calls k a0_0 _ _ l0_1 true _ ?side1 ?side2 A13.out).mono ?_); (case side1 => exact sd_ (Kd.C_below HR0_1.out HB.out)); (case side2 => exact HC0_1.out); rintro e w67 ⟨rfl, hb⟩; refine ⟨_, rfl, ?_⟩; have n_ := a_ (rb_ HO598 hb) (a_ (rb_ HO604 hb) (a_ (rb_ HO610 hb) (a_ (bb_ BK593 hb) (a_ (bb_ BK600 hb) (a_ (bb_ BK606 hb) (a_ (bb_ BK612 hb) (a_ (bb_ BK616 hb) (bs_ HB hb)))))))); clear HO598 HO604 HO610 BK593 BK600 BK606 BK612 BK616 HB; obtain ⟨HO598, HO604, HO610, BK593, BK600, BK606, BK612, BK616, HB⟩ := n_; (try clear hb); (try clear hb2); (try clear hk); (try clear hi)))
  first | (obtain ⟨w67, hq_⟩ : ∃ x, x = w67.drewN nd := ⟨_, rfl⟩; rw [← hq_]; have q0_ := Aside0.mk (Kd.R_drewN HO598.out nd); rw [← hq_] at q0_; have q1_ := Aside0.mk (Kd.R_drewN HO604.out nd); rw [← hq_] at q1_; have q2_ := Aside0.mk (Kd.R_drewN HO610.out nd); rw [← hq_] at q2_; have q3_ := Aside0.mk (blk_drewN BK593.out nd); rw [← hq_] at q3_; have q4_ := Aside0.mk (blk_drewN BK600.out nd); rw [← hq_] at q4_; have q5_ := Aside0.mk (blk_drewN BK606.out nd); rw [← hq_] at q5_; have q6_ := Aside0.mk (blk_drewN BK612.out nd); rw [← hq_] at q6_; have q7_ := Aside0.mk (blk_drewN BK616.out nd); rw [← hq_] at q7_; have q8_ := Aside0.mk (pw_below_drewN HB.out nd); rw [← hq_] at q8_; clear HO598; clear HO604; clear HO610; clear BK593; clear BK600; clear BK606; clear BK612; clear BK616; clear HB; have HO598 := q0_; have HO604 := q1_; have HO610 := q2_; have BK593 := q3_; have BK600 := q4_; have BK606 := q5_; have BK612 := q6_; have BK616 := q7_; have HB := q8_; clear hq_ q0_ q1_ q2_ q3_ q4_ q5_ q6_ q7_ q8_) | skip
  have n_ := a_ (Aside0.mk (Kd.R_drew HO598.out)) (a_ (Aside0.mk (Kd.R_drew HO604.out)) (a_ (Aside0.mk (Kd.R_drew HO610.out)) (a_ (Aside0.mk (blk_drew BK593.out)) (a_ (Aside0.mk (blk_drew BK600.out)) (a_ (Aside0.mk (blk_drew BK606.out)) (a_ (Aside0.mk (blk_drew BK612.out)) (a_ (Aside0.mk (blk_drew BK616.out)) (Aside0.mk (below_drew1 HB.out)))))))))
  clear HO598 HO604 HO610 BK593 BK600 BK606 BK612 BK616 HB
  obtain ⟨HO598, HO604, HO610, BK593, BK600, BK606, BK612, BK616, HB⟩ := n_
  refine start_ (n := 12) (S := fun w' => w'.cell? ⟨gb593, 0, none⟩ = some (.int .i64 a0_0) ∧ w'.cell? ⟨gb593, 1, none⟩ = some (.slice A0_1 l0_1.length c0_1)) (ds := []) #[false, false, false, false, false, false, false, false, false, false, false, false] (by kernel_rfl) rfl rfl ⟨(blk_cell BK593.out 0).trans rfl, (blk_cell BK593.out 1).trans rfl⟩ (fun hHeld => ?_); refine with_tabW warrantorlaw09_ZoneOne_v1.tab11 warrantorlaw09_ZoneOne_v1.bits11 (fun HT_ HW_ => ?_)
  generalize w67.drew = w68 at HO598 HO604 HO610 BK593 BK600 BK606 BK612 BK616 HB hHeld ⊢
  refine pu_ 1 (some 91) ?_
  refine pu_ 4 (some 94) ?_
  refine pu_ 7 (some 97) ?_
  refine take_ (i := 0) (N := some 90) (v := ?_) (a' := ?_) #[true, true, false, false, true, false, false, true, false, false, false, false] rfl rfl (take_ofW HT_.out HW_.out (by kernel_rfl)) (fun _ _ _ h => h) (Or.inl ⟨by rfl, ?_⟩) hHeld ?_ ?_
  rotate_left
  · rintro w' ⟨s0, s1⟩
    go_simp
    with_reducible rfl
  rotate_left
  · exact AP_
  refine take_ (i := 3) (N := some 93) (v := ?_) (a' := ?_) #[true, true, false, true, true, false, false, true, false, false, false, false] rfl rfl (take_ofW HT_.out HW_.out (by kernel_rfl)) (fun _ _ _ h => h) (Or.inl ⟨by rfl, ?_⟩) hHeld ?_ ?_
  rotate_left
  · rintro w' ⟨s0, s1⟩
    go_simp
    with_reducible rfl
  rotate_left
  · exact AP_
  refine take_ (i := 6) (N := some 96) (v := ?_) (a' := ?_) #[true, true, false, true, true, false, true, true, false, false, false, false] rfl rfl (take_ofW HT_.out HW_.out (by kernel_rfl)) (fun _ _ _ h => h) (Or.inl ⟨by rfl, ?_⟩) hHeld ?_ ?_
  rotate_left
  · rintro w' ⟨s0, s1⟩
    go_simp
    with_reducible rfl
  rotate_left
  · exact AP_
  refine on_ 2 (some 92) (fun K hK => ?_)
  refine goes_ Try.func28 (by kernel_rfl) rfl #[.agg #[.int .i64 a0_0, .slice A0_1 l0_1.length c0_1], .int .i64 a1] (by rfl) rfl rfl MP_ ?_
  with_reducible refine (warrantorref09_Var.calls a0_0 _ _ l0_1 a1 true _ ?side1 ?side2 A15.out).mono ?_
  (case side1 => exact sd_ (Kd.C_below HR0_1.out HB.out))
  (case side2 => exact HC0_1.out)
  rintro e w69 ⟨rfl, hb⟩
  refine ⟨_, rfl, ?_⟩
  have n_ := a_ (rb_ HO598 hb) (a_ (rb_ HO604 hb) (a_ (rb_ HO610 hb) (a_ (bb_ BK593 hb) (a_ (bb_ BK600 hb) (a_ (bb_ BK606 hb) (a_ (bb_ BK612 hb) (a_ (bb_ BK616 hb) (bs_ HB hb))))))))
  clear HO598 HO604 HO610 BK593 BK600 BK606 BK612 BK616 HB
  obtain ⟨HO598, HO604, HO610, BK593, BK600, BK606, BK612, BK616, HB⟩ := n_
  (try clear hb)
  (try clear hb2)
  (try clear hk)
  (try clear hi)
  refine hK.out _ _ ⟨(blk_cell BK593.out 0).trans rfl, (blk_cell BK593.out 1).trans rfl⟩ (fun hHeld => ?_)
  clear hK K
  refine nm_ ?_
  refine on_ 5 (some 95) (fun K hK => ?_)
  refine goes_ Try.func29 (by kernel_rfl) rfl #[.agg #[.int .i64 a0_0, .slice A0_1 l0_1.length c0_1], .int .i64 a1] (by rfl) rfl rfl MP_ ?_
  with_reducible refine (warrantorref09_Or0.calls a0_0 _ _ l0_1 a1 true _ ?side1 ?side2 A16.out).mono ?_
  (case side1 => exact sd_ (Kd.C_below HR0_1.out HB.out))
  (case side2 => exact HC0_1.out)
  rintro e w70 ⟨rfl, hb⟩
  refine ⟨_, rfl, ?_⟩
  have n_ := a_ (rb_ HO598 hb) (a_ (rb_ HO604 hb) (a_ (rb_ HO610 hb) (a_ (bb_ BK593 hb) (a_ (bb_ BK600 hb) (a_ (bb_ BK606 hb) (a_ (bb_ BK612 hb) (a_ (bb_ BK616 hb) (bs_ HB hb))))))))
  clear HO598 HO604 HO610 BK593 BK600 BK606 BK612 BK616 HB
  obtain ⟨HO598, HO604, HO610, BK593, BK600, BK606, BK612, BK616, HB⟩ := n_
  (try clear hb)
  (try clear hb2)
  (try clear hk)
  (try clear hi)
  refine hK.out _ _ ⟨(blk_cell BK593.out 0).trans rfl, (blk_cell BK593.out 1).trans rfl⟩ (fun hHeld => ?_)
  clear hK K
  refine nm_ ?_
  refine on_ 8 (some 98) (fun K hK => ?_)
  refine goes_ Try.func29 (by kernel_rfl) rfl #[.agg #[.int .i64 a0_0, .slice A0_1 l0_1.length c0_1], .int .i64 a2] (by rfl) rfl rfl MP_ ?_
  with_reducible refine (warrantorref09_Or0.calls a0_0 _ _ l0_1 a2 true _ ?side1 ?side2 A17.out).mono ?_
  (case side1 => exact sd_ (Kd.C_below HR0_1.out HB.out))
  (case side2 => exact HC0_1.out)
  rintro e w71 ⟨rfl, hb⟩
  refine ⟨_, rfl, ?_⟩
  have n_ := a_ (rb_ HO598 hb) (a_ (rb_ HO604 hb) (a_ (rb_ HO610 hb) (a_ (bb_ BK593 hb) (a_ (bb_ BK600 hb) (a_ (bb_ BK606 hb) (a_ (bb_ BK612 hb) (a_ (bb_ BK616 hb) (bs_ HB hb))))))))
  clear HO598 HO604 HO610 BK593 BK600 BK606 BK612 BK616 HB
  obtain ⟨HO598, HO604, HO610, BK593, BK600, BK606, BK612, BK616, HB⟩ := n_
  (try clear hb)
  (try clear hb2)
  (try clear hk)
  (try clear hi)
  refine hK.out _ _ ⟨(blk_cell BK593.out 0).trans rfl, (blk_cell BK593.out 1).trans rfl⟩ (fun hHeld => ?_)
  clear hK K
  refine nm_ ?_
  refine pu_ 9 (some 17) ?_
  refine pu_ 10 (some 18) ?_
  refine pu_ 11 (some 19) ?_
  refine done_ (done_of HT_.out (by kernel_rfl)) ?_
  try go_wp2
  first | (obtain ⟨w71, hq_⟩ : ∃ x, x = w71.drewN nd := ⟨_, rfl⟩; rw [← hq_]; have q0_ := Aside0.mk (Kd.R_drewN HO598.out nd); rw [← hq_] at q0_; have q1_ := Aside0.mk (Kd.R_drewN HO604.out nd); rw [← hq_] at q1_; have q2_ := Aside0.mk (Kd.R_drewN HO610.out nd); rw [← hq_] at q2_; have q3_ := Aside0.mk (blk_drewN BK593.out nd); rw [← hq_] at q3_; have q4_ := Aside0.mk (blk_drewN BK600.out nd); rw [← hq_] at q4_; have q5_ := Aside0.mk (blk_drewN BK606.out nd); rw [← hq_] at q5_; have q6_ := Aside0.mk (blk_drewN BK612.out nd); rw [← hq_] at q6_; have q7_ := Aside0.mk (blk_drewN BK616.out nd); rw [← hq_] at q7_; have q8_ := Aside0.mk (pw_below_drewN HB.out nd); rw [← hq_] at q8_; clear HO598; clear HO604; clear HO610; clear BK593; clear BK600; clear BK606; clear BK612; clear BK616; clear HB; have HO598 := q0_; have HO604 := q1_; have HO610 := q2_; have BK593 := q3_; have BK600 := q4_; have BK606 := q5_; have BK612 := q6_; have BK616 := q7_; have HB := q8_; clear hq_ q0_ q1_ q2_ q3_ q4_ q5_ q6_ q7_ q8_) | skip
  have n_ := a_ (Aside0.mk (Kd.R_drew HO598.out)) (a_ (Aside0.mk (Kd.R_drew HO604.out)) (a_ (Aside0.mk (Kd.R_drew HO610.out)) (a_ (Aside0.mk (blk_drew BK593.out)) (a_ (Aside0.mk (blk_drew BK600.out)) (a_ (Aside0.mk (blk_drew BK606.out)) (a_ (Aside0.mk (blk_drew BK612.out)) (a_ (Aside0.mk (blk_drew BK616.out)) (Aside0.mk (below_drew1 HB.out)))))))))
  clear HO598 HO604 HO610 BK593 BK600 BK606 BK612 BK616 HB
  obtain ⟨HO598, HO604, HO610, BK593, BK600, BK606, BK612, BK616, HB⟩ := n_
  refine start_ (n := 16) (S := fun w' => w'.cell? ⟨gb616, 0, none⟩ = some (.int .i64 t613) ∧ w'.cell? ⟨gb616, 1, none⟩ = some (.int .i64 t614) ∧ w'.cell? ⟨gb593, 0, none⟩ = some (.int .i64 a0_0) ∧ w'.cell? ⟨gb593, 1, none⟩ = some (.slice A0_1 l0_1.length c0_1) ∧ w'.cell? ⟨gb606, 0, none⟩ = some (.int .i64 t601) ∧ w'.cell? ⟨gb606, 1, none⟩ = some (.slice Ao48 t602.length co48)) (ds := []) #[false, false, false, false, false, false, false, false, false, false, false, false, false, false, false, false] (by kernel_rfl) rfl rfl ⟨(blk_cell BK616.out 0).trans rfl, (blk_cell BK616.out 1).trans rfl, (blk_cell BK593.out 0).trans rfl, (blk_cell BK593.out 1).trans rfl, (blk_cell BK606.out 0).trans rfl, (blk_cell BK606.out 1).trans rfl⟩ (fun hHeld => ?_); refine with_tabW warrantorlaw09_ZoneOne_v1.tab16 warrantorlaw09_ZoneOne_v1.bits16 (fun HT_ HW_ => ?_)
  generalize w71.drew = w72 at HO598 HO604 HO610 BK593 BK600 BK606 BK612 BK616 HB hHeld ⊢
  refine pu_ 2 (some 145) ?_
  refine take_ (i := 0) (N := some 143) (v := ?_) (a' := ?_) #[true, false, true, false, false, false, false, false, false, false, false, false, false, false, false, false] rfl rfl (take_ofW HT_.out HW_.out (by kernel_rfl)) (fun _ _ _ h => h) (Or.inl ⟨by rfl, ?_⟩) hHeld ?_ ?_
  rotate_left
  · rintro w' ⟨s0, s1, s2, s3, s4, s5⟩
    go_simp
    with_reducible rfl
  rotate_left
  · exact AP_
  refine take_ (i := 1) (N := some 144) (v := ?_) (a' := ?_) #[true, true, true, false, false, false, false, false, false, false, false, false, false, false, false, false] rfl rfl (take_ofW HT_.out HW_.out (by kernel_rfl)) (fun _ _ _ h => h) (Or.inl ⟨by rfl, ?_⟩) hHeld ?_ ?_
  rotate_left
  · rintro w' ⟨s0, s1, s2, s3, s4, s5⟩
    go_simp
    with_reducible rfl
  rotate_left
  · exact AP_
  refine on_ 3 (some 146) (fun K hK => ?_)
  refine goes_ Try.func30 (by kernel_rfl) rfl #[.agg #[.int .i64 a0_0, .slice A0_1 l0_1.length c0_1], .int .i64 a1] (by rfl) rfl rfl MP_ ?_
  with_reducible refine (warrantorref09_Itv.calls a0_0 _ _ l0_1 a1 t622 t623 _ ?side1 ?side2 A24.out).mono ?_
  (case side1 => exact sd_ (Kd.C_below HR0_1.out HB.out))
  (case side2 => exact HC0_1.out)
  rintro e w73 ⟨rfl, hb⟩
  refine ⟨_, rfl, ?_⟩
  have n_ := a_ (rb_ HO598 hb) (a_ (rb_ HO604 hb) (a_ (rb_ HO610 hb) (a_ (bb_ BK593 hb) (a_ (bb_ BK600 hb) (a_ (bb_ BK606 hb) (a_ (bb_ BK612 hb) (a_ (bb_ BK616 hb) (bs_ HB hb))))))))
  clear HO598 HO604 HO610 BK593 BK600 BK606 BK612 BK616 HB
  obtain ⟨HO598, HO604, HO610, BK593, BK600, BK606, BK612, BK616, HB⟩ := n_
  (try clear hb)
  (try clear hb2)
  (try clear hk)
  (try clear hi)
  refine hK.out _ _ ⟨(blk_cell BK616.out 0).trans rfl, (blk_cell BK616.out 1).trans rfl, (blk_cell BK593.out 0).trans rfl, (blk_cell BK593.out 1).trans rfl, (blk_cell BK606.out 0).trans rfl, (blk_cell BK606.out 1).trans rfl⟩ (fun hHeld => ?_)
  clear hK K
  refine nm_ ?_
  refine pu_ 4 (some 147) ?_
  refine pu_ 5 (some 148) ?_
  refine pu_ 6 (some 149) ?_
  refine pu_ 7 (some 150) ?_
  refine pu_ 10 (some 153) ?_
  refine take_ (i := 8) (N := some 151) (v := ?_) (a' := ?_) #[true, true, true, true, true, true, true, true, true, false, true, false, false, false, false, false] rfl rfl (take_ofW HT_.out HW_.out (by kernel_rfl)) (fun _ _ _ h => h) (Or.inl ⟨by rfl, ?_⟩) hHeld ?_ ?_
  rotate_left
  · rintro w' ⟨s0, s1, s2, s3, s4, s5⟩
    go_simp
    with_reducible rfl
  rotate_left
  · exact AP_
  refine take_ (i := 9) (N := some 152) (v := ?_) (a' := ?_) #[true, true, true, true, true, true, true, true, true, true, true, false, false, false, false, false] rfl rfl (take_ofW HT_.out HW_.out (by kernel_rfl)) (fun _ _ _ h => h) (Or.inl ⟨by rfl, ?_⟩) hHeld ?_ ?_
  rotate_left
  · rintro w' ⟨s0, s1, s2, s3, s4, s5⟩
    go_simp
    with_reducible rfl
  rotate_left
  · exact AP_
  refine on_ 11 (some 154) (fun K hK => ?_)
  refine goes_ Try.func31 (by kernel_rfl) rfl #[.agg #[.int .i64 a0_0, .slice A0_1 l0_1.length c0_1], .int .i64 a1] (by rfl) rfl rfl MP_ ?_
  with_reducible refine (warrantorref09_Forget.calls k a0_0 (fun k_ => k_ < w.heap.size) _ _ l0_1 a1 t624 t625 _ ?side1 A26.out).mono ?_
  (case side1 => exact Kd.V_mk HC0_1.out (Kd.F_below (Kd.C_F (Kd.heap_int .i64) HR0_1.out) HB_))
  rintro e w74 ⟨v626, rfl, ho0, hb⟩
  refine ⟨_, rfl, ?_⟩
  have n_ := a_ (rb_ HO598 hb) (a_ (rb_ HO604 hb) (a_ (rb_ HO610 hb) (a_ (Aside0.mk (Kd.V_lower (Kd.V_mono (ok' := fun k_ => some k_ ≠ (.slice Ao41 t596.length co41 : Value).ownBlock ∧ some k_ ≠ (.slice Ao48 t602.length co48 : Value).ownBlock ∧ some k_ ≠ (.slice Ao56 t608.length co56 : Value).ownBlock ∧ k_ ≠ gb593 ∧ k_ ≠ gb600 ∧ k_ ≠ gb606 ∧ k_ ≠ gb612 ∧ k_ ≠ gb616) ho0 (fun k_ hk_ => ⟨Or.elim hk_ (fun hs_ => fun e_ => Nat.not_le.2 hs_ (Kd.R_base HO598.out k_ e_.symm)) (fun hn_ => (Kd.fresh' (Kd.R_lt (rd_ HO598.out)) k_ hn_)), Or.elim hk_ (fun hs_ => fun e_ => Nat.not_le.2 hs_ (Kd.R_base HO604.out k_ e_.symm)) (fun hn_ => (Kd.fresh' (Kd.R_lt (rd_ HO604.out)) k_ hn_)), Or.elim hk_ (fun hs_ => fun e_ => Nat.not_le.2 hs_ (Kd.R_base HO610.out k_ e_.symm)) (fun hn_ => (Kd.fresh' (Kd.R_lt (rd_ HO610.out)) k_ hn_)), Or.elim hk_ (fun hs_ => fun e_ => Nat.not_le.2 hs_ (by rw [e_]; exact GW593.out)) (fun hn_ => (Kd.freshB (g := gb593) (o := .cells #[.int .i64 a0_0, .slice A0_1 l0_1.length c0_1] 24 (0, 0)) (bk_ BK593.out) k_ hn_)), Or.elim hk_ (fun hs_ => fun e_ => Nat.not_le.2 hs_ (by rw [e_]; exact GW600.out)) (fun hn_ => (Kd.freshB (g := gb600) (o := .cells #[.int .i64 t595, .slice Ao41 t596.length co41] 24 (0, 0)) (bk_ BK600.out) k_ hn_)), Or.elim hk_ (fun hs_ => fun e_ => Nat.not_le.2 hs_ (by rw [e_]; exact GW606.out)) (fun hn_ => (Kd.freshB (g := gb606) (o := .cells #[.int .i64 t601, .slice Ao48 t602.length co48] 24 (0, 0)) (bk_ BK606.out) k_ hn_)), Or.elim hk_ (fun hs_ => fun e_ => Nat.not_le.2 hs_ (by rw [e_]; exact GW612.out)) (fun hn_ => (Kd.freshB (g := gb612) (o := .cells #[.int .i64 t607, .slice Ao56 t608.length co56] 24 (0, 0)) (bk_ BK612.out) k_ hn_)), Or.elim hk_ (fun hs_ => fun e_ => Nat.not_le.2 hs_ (by rw [e_]; exact GW616.out)) (fun hn_ => (Kd.freshB (g := gb616) (o := .cells #[.int .i64 t613, .int .i64 t614] 39 (0, 0)) (bk_ BK616.out) k_ hn_))⟩)) (below_size HB_))) (a_ (bb_ BK593 hb) (a_ (bb_ BK600 hb) (a_ (bb_ BK606 hb) (a_ (bb_ BK612 hb) (a_ (bb_ BK616 hb) (bs_ HB hb)))))))))
  clear HO598 HO604 HO610 BK593 BK600 BK606 BK612 BK616 HB
  obtain ⟨HO598, HO604, HO610, HO627, BK593, BK600, BK606, BK612, BK616, HB⟩ := n_
  (try clear hb)
  (try clear hb2)
  (try clear hk)
  (try clear hi)
  (try clear ho0)
  obtain ⟨Ao75, co75, eo75⟩ := Kd.V_slice HO627.out
  (first | subst eo75 | (injection eo75 with f1_ f2_ f3_; have f4_ := f1_.symm; have f5_ := f3_.symm; clear f1_ f2_ f3_; subst f4_; subst f5_))
  refine hK.out _ _ ⟨(blk_cell BK616.out 0).trans rfl, (blk_cell BK616.out 1).trans rfl, (blk_cell BK593.out 0).trans rfl, (blk_cell BK593.out 1).trans rfl, (blk_cell BK606.out 0).trans rfl, (blk_cell BK606.out 1).trans rfl⟩ (fun hHeld => ?_)
  clear hK K
  refine nm_ ?_
  refine on_ 12 (some 155) (fun K hK => ?_)
  refine goes_ Try.func17 (by kernel_rfl) rfl #[.agg #[.int .i64 t601, .slice Ao48 t602.length co48], .agg #[.int .i64 t624, .slice Ao75 t625.length co75]] (by rfl) rfl rfl MP_ ?_
  with_reducible refine (warrantorref08_Same.calls k t601 _ _ t602 t624 _ _ t625 true _ ?side1 ?side2 ?side3 ?side4 A27.out).mono ?_
  (case side1 => repeat (first | exact (Kd.R_reads' HO604.out).2.2 | (with_reducible refine Kd.C_alloc ?_ _) | (with_reducible refine Kd.C_drewN ?_ _) | (with_reducible refine Kd.C_drew ?_)))
  (case side2 => exact (Kd.R_reads' HO604.out).2.1)
  (case side3 => repeat (first | exact (Kd.V_reads' HO627.out).2.2 | (with_reducible refine Kd.C_alloc ?_ _) | (with_reducible refine Kd.C_drewN ?_ _) | (with_reducible refine Kd.C_drew ?_)))
  (case side4 => exact (Kd.V_reads' HO627.out).2.1)
  rintro e w76 ⟨rfl, hb⟩
  refine ⟨_, rfl, ?_⟩
  have n_ := a_ (rb_ HO598 hb) (a_ (rb_ HO604 hb) (a_ (rb_ HO610 hb) (a_ (Aside0.mk (Kd.V_below (by (with_reducible repeat (first | apply Kd.V_alloc | apply Kd.V_drewN | apply Kd.V_drew)); exact HO627.out) hb)) (a_ (bb_ BK593 hb) (a_ (bb_ BK600 hb) (a_ (bb_ BK606 hb) (a_ (bb_ BK612 hb) (a_ (bb_ BK616 hb) (bs_ HB hb)))))))))
  clear HO598 HO604 HO610 HO627 BK593 BK600 BK606 BK612 BK616 HB
  obtain ⟨HO598, HO604, HO610, HO627, BK593, BK600, BK606, BK612, BK616, HB⟩ := n_
  (try clear hb)
  (try clear hb2)
  (try clear hk)
  (try clear hi)
  refine hK.out _ _ ⟨(blk_cell BK616.out 0).trans rfl, (blk_cell BK616.out 1).trans rfl, (blk_cell BK593.out 0).trans rfl, (blk_cell BK593.out 1).trans rfl, (blk_cell BK606.out 0).trans rfl, (blk_cell BK606.out 1).trans rfl⟩ (fun hHeld => ?_)
  clear hK K
  refine nm_ ?_
  refine pu_ 13 (some 156) ?_
  refine pu_ 14 (some 157) ?_
  refine pu_ 15 (some 158) ?_
  refine done_ (done_of HT_.out (by kernel_rfl)) ?_
  try go_wp2
  have n_ := a_ (Aside0.mk (Kd.R_drew HO598.out)) (a_ (Aside0.mk (Kd.R_drew HO604.out)) (a_ (Aside0.mk (Kd.R_drew HO610.out)) (a_ (Aside0.mk (Kd.V_drew HO627.out)) (a_ (Aside0.mk (blk_drew BK593.out)) (a_ (Aside0.mk (blk_drew BK600.out)) (a_ (Aside0.mk (blk_drew BK606.out)) (a_ (Aside0.mk (blk_drew BK612.out)) (a_ (Aside0.mk (blk_drew BK616.out)) (Aside0.mk (below_drew1 HB.out))))))))))
  clear HO598 HO604 HO610 HO627 BK593 BK600 BK606 BK612 BK616 HB
  obtain ⟨HO598, HO604, HO610, HO627, BK593, BK600, BK606, BK612, BK616, HB⟩ := n_
  refine start_ (n := 29) (S := fun w' => w'.cell? ⟨gb600, 0, none⟩ = some (.int .i64 t595) ∧ w'.cell? ⟨gb600, 1, none⟩ = some (.slice Ao41 t596.length co41) ∧ w'.cell? ⟨gb593, 0, none⟩ = some (.int .i64 a0_0) ∧ w'.cell? ⟨gb593, 1, none⟩ = some (.slice A0_1 l0_1.length c0_1) ∧ w'.cell? ⟨gb612, 0, none⟩ = some (.int .i64 t607) ∧ w'.cell? ⟨gb612, 1, none⟩ = some (.slice Ao56 t608.length co56)) (ds := []) #[false, false, false, false, false, false, false, false, false, false, false, false, false, false, false, false, false, false, false, false, false, false, false, false, false, false, false, false, false] (by kernel_rfl) rfl rfl ⟨(blk_cell BK600.out 0).trans rfl, (blk_cell BK600.out 1).trans rfl, (blk_cell BK593.out 0).trans rfl, (blk_cell BK593.out 1).trans rfl, (blk_cell BK612.out 0).trans rfl, (blk_cell BK612.out 1).trans rfl⟩ (fun hHeld => ?_); refine with_tabW warrantorlaw09_ZoneOne_v1.tab18 warrantorlaw09_ZoneOne_v1.bits18 (fun HT_ HW_ => ?_)
  generalize w76.drew = w77 at HO598 HO604 HO610 HO627 BK593 BK600 BK606 BK612 BK616 HB hHeld ⊢
  refine pu_ 0 (some 159) ?_
  refine pu_ 1 (some 160) ?_
  refine pu_ 2 (some 161) ?_
  refine pu_ 5 (some 164) ?_
  refine pu_ 6 (some 165) ?_
  refine pu_ 7 (some 166) ?_
  refine take_ (i := 3) (N := some 162) (v := ?_) (a' := ?_) #[true, true, true, true, false, true, true, true, false, false, false, false, false, false, false, false, false, false, false, false, false, false, false, false, false, false, false, false, false] rfl rfl (take_ofW HT_.out HW_.out (by kernel_rfl)) (fun _ _ _ h => h) (Or.inl ⟨by rfl, ?_⟩) hHeld ?_ ?_
  rotate_left
  · rintro w' ⟨s0, s1, s2, s3, s4, s5⟩
    go_simp
    with_reducible rfl
  rotate_left
  · exact AP_
  refine take_ (i := 4) (N := some 163) (v := ?_) (a' := ?_) #[true, true, true, true, true, true, true, true, false, false, false, false, false, false, false, false, false, false, false, false, false, false, false, false, false, false, false, false, false] rfl rfl (take_ofW HT_.out HW_.out (by kernel_rfl)) (fun _ _ _ h => h) (Or.inl ⟨by rfl, ?_⟩) hHeld ?_ ?_
  rotate_left
  · rintro w' ⟨s0, s1, s2, s3, s4, s5⟩
    go_simp
    with_reducible rfl
  rotate_left
  · exact AP_
  refine on_ 8 (some 167) (fun K hK => ?_)
  refine goes_ Try.func32 (by kernel_rfl) rfl #[.agg #[.int .i64 a0_0, .slice A0_1 l0_1.length c0_1], .int .i64 a1, .int .i64 a2, .int .i64 a3] (by rfl) rfl rfl MP_ ?_
  with_reducible refine (warrantorref09_Limit.calls k a0_0 (fun k_ => k_ < w.heap.size) _ _ l0_1 a1 a2 a3 t629 t630 _ ?side1 A30.out).mono ?_
  (case side1 => exact Kd.V_mk HC0_1.out (Kd.F_below (Kd.C_F (Kd.heap_int .i64) HR0_1.out) HB_))
  rintro e w78 ⟨v631, rfl, ho0, hb⟩
  refine ⟨_, rfl, ?_⟩
  have n_ := a_ (rb_ HO598 hb) (a_ (rb_ HO604 hb) (a_ (rb_ HO610 hb) (a_ (Aside0.mk (Kd.V_below (by (with_reducible repeat (first | apply Kd.V_alloc | apply Kd.V_drewN | apply Kd.V_drew)); exact HO627.out) hb)) (a_ (Aside0.mk (Kd.V_lower (Kd.V_mono (ok' := fun k_ => some k_ ≠ (.slice Ao41 t596.length co41 : Value).ownBlock ∧ some k_ ≠ (.slice Ao48 t602.length co48 : Value).ownBlock ∧ some k_ ≠ (.slice Ao56 t608.length co56 : Value).ownBlock ∧ k_ ≠ gb593 ∧ k_ ≠ gb600 ∧ k_ ≠ gb606 ∧ k_ ≠ gb612 ∧ k_ ≠ gb616) ho0 (fun k_ hk_ => ⟨Or.elim hk_ (fun hs_ => fun e_ => Nat.not_le.2 hs_ (Kd.R_base HO598.out k_ e_.symm)) (fun hn_ => (Kd.fresh' (Kd.R_lt (rd_ HO598.out)) k_ hn_)), Or.elim hk_ (fun hs_ => fun e_ => Nat.not_le.2 hs_ (Kd.R_base HO604.out k_ e_.symm)) (fun hn_ => (Kd.fresh' (Kd.R_lt (rd_ HO604.out)) k_ hn_)), Or.elim hk_ (fun hs_ => fun e_ => Nat.not_le.2 hs_ (Kd.R_base HO610.out k_ e_.symm)) (fun hn_ => (Kd.fresh' (Kd.R_lt (rd_ HO610.out)) k_ hn_)), Or.elim hk_ (fun hs_ => fun e_ => Nat.not_le.2 hs_ (by rw [e_]; exact GW593.out)) (fun hn_ => (Kd.freshB (g := gb593) (o := .cells #[.int .i64 a0_0, .slice A0_1 l0_1.length c0_1] 24 (0, 0)) (bk_ BK593.out) k_ hn_)), Or.elim hk_ (fun hs_ => fun e_ => Nat.not_le.2 hs_ (by rw [e_]; exact GW600.out)) (fun hn_ => (Kd.freshB (g := gb600) (o := .cells #[.int .i64 t595, .slice Ao41 t596.length co41] 24 (0, 0)) (bk_ BK600.out) k_ hn_)), Or.elim hk_ (fun hs_ => fun e_ => Nat.not_le.2 hs_ (by rw [e_]; exact GW606.out)) (fun hn_ => (Kd.freshB (g := gb606) (o := .cells #[.int .i64 t601, .slice Ao48 t602.length co48] 24 (0, 0)) (bk_ BK606.out) k_ hn_)), Or.elim hk_ (fun hs_ => fun e_ => Nat.not_le.2 hs_ (by rw [e_]; exact GW612.out)) (fun hn_ => (Kd.freshB (g := gb612) (o := .cells #[.int .i64 t607, .slice Ao56 t608.length co56] 24 (0, 0)) (bk_ BK612.out) k_ hn_)), Or.elim hk_ (fun hs_ => fun e_ => Nat.not_le.2 hs_ (by rw [e_]; exact GW616.out)) (fun hn_ => (Kd.freshB (g := gb616) (o := .cells #[.int .i64 t613, .int .i64 t614] 39 (0, 0)) (bk_ BK616.out) k_ hn_))⟩)) (below_size HB_))) (a_ (bb_ BK593 hb) (a_ (bb_ BK600 hb) (a_ (bb_ BK606 hb) (a_ (bb_ BK612 hb) (a_ (bb_ BK616 hb) (bs_ HB hb))))))))))
  clear HO598 HO604 HO610 HO627 BK593 BK600 BK606 BK612 BK616 HB
  obtain ⟨HO598, HO604, HO610, HO627, HO632, BK593, BK600, BK606, BK612, BK616, HB⟩ := n_
  (try clear hb)
  (try clear hb2)
  (try clear hk)
  (try clear hi)
  (try clear ho0)
  obtain ⟨Ao79, co79, eo79⟩ := Kd.V_slice HO632.out
  (first | subst eo79 | (injection eo79 with f1_ f2_ f3_; have f4_ := f1_.symm; have f5_ := f3_.symm; clear f1_ f2_ f3_; subst f4_; subst f5_))
  refine hK.out _ _ ⟨(blk_cell BK600.out 0).trans rfl, (blk_cell BK600.out 1).trans rfl, (blk_cell BK593.out 0).trans rfl, (blk_cell BK593.out 1).trans rfl, (blk_cell BK612.out 0).trans rfl, (blk_cell BK612.out 1).trans rfl⟩ (fun hHeld => ?_)
  clear hK K
  refine nm_ ?_
  refine on_ 9 (some 168) (fun K hK => ?_)
  refine goes_ Try.func17 (by kernel_rfl) rfl #[.agg #[.int .i64 t595, .slice Ao41 t596.length co41], .agg #[.int .i64 t629, .slice Ao79 t630.length co79]] (by rfl) rfl rfl MP_ ?_
  with_reducible refine (warrantorref08_Same.calls k t595 _ _ t596 t629 _ _ t630 true _ ?side1 ?side2 ?side3 ?side4 A31.out).mono ?_
  (case side1 => repeat (first | exact (Kd.R_reads' HO598.out).2.2 | (with_reducible refine Kd.C_alloc ?_ _) | (with_reducible refine Kd.C_drewN ?_ _) | (with_reducible refine Kd.C_drew ?_)))
  (case side2 => exact (Kd.R_reads' HO598.out).2.1)
  (case side3 => repeat (first | exact (Kd.V_reads' HO632.out).2.2 | (with_reducible refine Kd.C_alloc ?_ _) | (with_reducible refine Kd.C_drewN ?_ _) | (with_reducible refine Kd.C_drew ?_)))
  (case side4 => exact (Kd.V_reads' HO632.out).2.1)
  rintro e w80 ⟨rfl, hb⟩
  refine ⟨_, rfl, ?_⟩
  have n_ := a_ (rb_ HO598 hb) (a_ (rb_ HO604 hb) (a_ (rb_ HO610 hb) (a_ (Aside0.mk (Kd.V_below (by (with_reducible repeat (first | apply Kd.V_alloc | apply Kd.V_drewN | apply Kd.V_drew)); exact HO627.out) hb)) (a_ (Aside0.mk (Kd.V_below (by (with_reducible repeat (first | apply Kd.V_alloc | apply Kd.V_drewN | apply Kd.V_drew)); exact HO632.out) hb)) (a_ (bb_ BK593 hb) (a_ (bb_ BK600 hb) (a_ (bb_ BK606 hb) (a_ (bb_ BK612 hb) (a_ (bb_ BK616 hb) (bs_ HB hb))))))))))
  clear HO598 HO604 HO610 HO627 HO632 BK593 BK600 BK606 BK612 BK616 HB
  obtain ⟨HO598, HO604, HO610, HO627, HO632, BK593, BK600, BK606, BK612, BK616, HB⟩ := n_
  (try clear hb)
  (try clear hb2)
  (try clear hk)
  (try clear hi)
  refine hK.out _ _ ⟨(blk_cell BK600.out 0).trans rfl, (blk_cell BK600.out 1).trans rfl, (blk_cell BK593.out 0).trans rfl, (blk_cell BK593.out 1).trans rfl, (blk_cell BK612.out 0).trans rfl, (blk_cell BK612.out 1).trans rfl⟩ (fun hHeld => ?_)
  clear hK K
  refine nm_ ?_
  refine pu_ 10 (some 169) ?_
  refine pu_ 11 (some 170) ?_
  refine pu_ 12 (some 171) ?_
  refine pu_ 13 (some 172) ?_
  refine pu_ 14 (some 173) ?_
  refine pu_ 15 (some 174) ?_
  refine pu_ 16 (some 175) ?_
  refine pu_ 17 (some 176) ?_
  refine pu_ 18 (some 177) ?_
  refine pu_ 21 (some 180) ?_
  refine pu_ 22 (some 181) ?_
  refine pu_ 23 (some 182) ?_
  refine take_ (i := 19) (N := some 178) (v := ?_) (a' := ?_) #[true, true, true, true, true, true, true, true, true, true, true, true, true, true, true, true, true, true, true, true, false, true, true, true, false, false, false, false, false] rfl rfl (take_ofW HT_.out HW_.out (by kernel_rfl)) (fun _ _ _ h => h) (Or.inl ⟨by rfl, ?_⟩) hHeld ?_ ?_
  rotate_left
  · rintro w' ⟨s0, s1, s2, s3, s4, s5⟩
    go_simp
    with_reducible rfl
  rotate_left
  · exact AP_
  refine take_ (i := 20) (N := some 179) (v := ?_) (a' := ?_) #[true, true, true, true, true, true, true, true, true, true, true, true, true, true, true, true, true, true, true, true, true, true, true, true, false, false, false, false, false] rfl rfl (take_ofW HT_.out HW_.out (by kernel_rfl)) (fun _ _ _ h => h) (Or.inl ⟨by rfl, ?_⟩) hHeld ?_ ?_
  rotate_left
  · rintro w' ⟨s0, s1, s2, s3, s4, s5⟩
    go_simp
    with_reducible rfl
  rotate_left
  · exact AP_
  refine on_ 24 (some 183) (fun K hK => ?_)
  refine goes_ Try.func33 (by kernel_rfl) rfl #[.agg #[.int .i64 a0_0, .slice A0_1 l0_1.length c0_1], .int .i64 a1, .int .i64 a2, .int .i64 a3] (by rfl) rfl rfl MP_ ?_
  with_reducible refine (warrantorref09_Let.calls k a0_0 (fun k_ => k_ < w.heap.size) _ _ l0_1 a1 a2 a3 t634 t635 _ ?side1 A33.out).mono ?_
  (case side1 => exact Kd.V_mk HC0_1.out (Kd.F_below (Kd.C_F (Kd.heap_int .i64) HR0_1.out) HB_))
  rintro e w81 ⟨v636, rfl, ho0, hb⟩
  refine ⟨_, rfl, ?_⟩
  have n_ := a_ (rb_ HO598 hb) (a_ (rb_ HO604 hb) (a_ (rb_ HO610 hb) (a_ (Aside0.mk (Kd.V_below (by (with_reducible repeat (first | apply Kd.V_alloc | apply Kd.V_drewN | apply Kd.V_drew)); exact HO627.out) hb)) (a_ (Aside0.mk (Kd.V_below (by (with_reducible repeat (first | apply Kd.V_alloc | apply Kd.V_drewN | apply Kd.V_drew)); exact HO632.out) hb)) (a_ (Aside0.mk (Kd.V_lower (Kd.V_mono (ok' := fun k_ => some k_ ≠ (.slice Ao41 t596.length co41 : Value).ownBlock ∧ some k_ ≠ (.slice Ao48 t602.length co48 : Value).ownBlock ∧ some k_ ≠ (.slice Ao56 t608.length co56 : Value).ownBlock ∧ k_ ≠ gb593 ∧ k_ ≠ gb600 ∧ k_ ≠ gb606 ∧ k_ ≠ gb612 ∧ k_ ≠ gb616) ho0 (fun k_ hk_ => ⟨Or.elim hk_ (fun hs_ => fun e_ => Nat.not_le.2 hs_ (Kd.R_base HO598.out k_ e_.symm)) (fun hn_ => (Kd.fresh' (Kd.R_lt (rd_ HO598.out)) k_ hn_)), Or.elim hk_ (fun hs_ => fun e_ => Nat.not_le.2 hs_ (Kd.R_base HO604.out k_ e_.symm)) (fun hn_ => (Kd.fresh' (Kd.R_lt (rd_ HO604.out)) k_ hn_)), Or.elim hk_ (fun hs_ => fun e_ => Nat.not_le.2 hs_ (Kd.R_base HO610.out k_ e_.symm)) (fun hn_ => (Kd.fresh' (Kd.R_lt (rd_ HO610.out)) k_ hn_)), Or.elim hk_ (fun hs_ => fun e_ => Nat.not_le.2 hs_ (by rw [e_]; exact GW593.out)) (fun hn_ => (Kd.freshB (g := gb593) (o := .cells #[.int .i64 a0_0, .slice A0_1 l0_1.length c0_1] 24 (0, 0)) (bk_ BK593.out) k_ hn_)), Or.elim hk_ (fun hs_ => fun e_ => Nat.not_le.2 hs_ (by rw [e_]; exact GW600.out)) (fun hn_ => (Kd.freshB (g := gb600) (o := .cells #[.int .i64 t595, .slice Ao41 t596.length co41] 24 (0, 0)) (bk_ BK600.out) k_ hn_)), Or.elim hk_ (fun hs_ => fun e_ => Nat.not_le.2 hs_ (by rw [e_]; exact GW606.out)) (fun hn_ => (Kd.freshB (g := gb606) (o := .cells #[.int .i64 t601, .slice Ao48 t602.length co48] 24 (0, 0)) (bk_ BK606.out) k_ hn_)), Or.elim hk_ (fun hs_ => fun e_ => Nat.not_le.2 hs_ (by rw [e_]; exact GW612.out)) (fun hn_ => (Kd.freshB (g := gb612) (o := .cells #[.int .i64 t607, .slice Ao56 t608.length co56] 24 (0, 0)) (bk_ BK612.out) k_ hn_)), Or.elim hk_ (fun hs_ => fun e_ => Nat.not_le.2 hs_ (by rw [e_]; exact GW616.out)) (fun hn_ => (Kd.freshB (g := gb616) (o := .cells #[.int .i64 t613, .int .i64 t614] 39 (0, 0)) (bk_ BK616.out) k_ hn_))⟩)) (below_size HB_))) (a_ (bb_ BK593 hb) (a_ (bb_ BK600 hb) (a_ (bb_ BK606 hb) (a_ (bb_ BK612 hb) (a_ (bb_ BK616 hb) (bs_ HB hb)))))))))))
  clear HO598 HO604 HO610 HO627 HO632 BK593 BK600 BK606 BK612 BK616 HB
  obtain ⟨HO598, HO604, HO610, HO627, HO632, HO637, BK593, BK600, BK606, BK612, BK616, HB⟩ := n_
  (try clear hb)
  (try clear hb2)
  (try clear hk)
  (try clear hi)
  (try clear ho0)
  obtain ⟨Ao82, co82, eo82⟩ := Kd.V_slice HO637.out
  (first | subst eo82 | (injection eo82 with f1_ f2_ f3_; have f4_ := f1_.symm; have f5_ := f3_.symm; clear f1_ f2_ f3_; subst f4_; subst f5_))
  refine hK.out _ _ ⟨(blk_cell BK600.out 0).trans rfl, (blk_cell BK600.out 1).trans rfl, (blk_cell BK593.out 0).trans rfl, (blk_cell BK593.out 1).trans rfl, (blk_cell BK612.out 0).trans rfl, (blk_cell BK612.out 1).trans rfl⟩ (fun hHeld => ?_)
  clear hK K
  refine nm_ ?_
  refine on_ 25 (some 184) (fun K hK => ?_)
  refine goes_ Try.func17 (by kernel_rfl) rfl #[.agg #[.int .i64 t607, .slice Ao56 t608.length co56], .agg #[.int .i64 t634, .slice Ao82 t635.length co82]] (by rfl) rfl rfl MP_ ?_
  with_reducible refine (warrantorref08_Same.calls k t607 _ _ t608 t634 _ _ t635 t638 _ ?side1 ?side2 ?side3 ?side4 A34.out).mono ?_
  (case side1 => repeat (first | exact (Kd.R_reads' HO610.out).2.2 | (with_reducible refine Kd.C_alloc ?_ _) | (with_reducible refine Kd.C_drewN ?_ _) | (with_reducible refine Kd.C_drew ?_)))
  (case side2 => exact (Kd.R_reads' HO610.out).2.1)
  (case side3 => repeat (first | exact (Kd.V_reads' HO637.out).2.2 | (with_reducible refine Kd.C_alloc ?_ _) | (with_reducible refine Kd.C_drewN ?_ _) | (with_reducible refine Kd.C_drew ?_)))
  (case side4 => exact (Kd.V_reads' HO637.out).2.1)
  rintro e w83 ⟨rfl, hb⟩
  refine ⟨_, rfl, ?_⟩
  have n_ := a_ (rb_ HO598 hb) (a_ (rb_ HO604 hb) (a_ (rb_ HO610 hb) (a_ (Aside0.mk (Kd.V_below (by (with_reducible repeat (first | apply Kd.V_alloc | apply Kd.V_drewN | apply Kd.V_drew)); exact HO627.out) hb)) (a_ (Aside0.mk (Kd.V_below (by (with_reducible repeat (first | apply Kd.V_alloc | apply Kd.V_drewN | apply Kd.V_drew)); exact HO632.out) hb)) (a_ (Aside0.mk (Kd.V_below (by (with_reducible repeat (first | apply Kd.V_alloc | apply Kd.V_drewN | apply Kd.V_drew)); exact HO637.out) hb)) (a_ (bb_ BK593 hb) (a_ (bb_ BK600 hb) (a_ (bb_ BK606 hb) (a_ (bb_ BK612 hb) (a_ (bb_ BK616 hb) (bs_ HB hb)))))))))))
  clear HO598 HO604 HO610 HO627 HO632 HO637 BK593 BK600 BK606 BK612 BK616 HB
  obtain ⟨HO598, HO604, HO610, HO627, HO632, HO637, BK593, BK600, BK606, BK612, BK616, HB⟩ := n_
  (try clear hb)
  (try clear hb2)
  (try clear hk)
  (try clear hi)
  refine hK.out _ _ ⟨(blk_cell BK600.out 0).trans rfl, (blk_cell BK600.out 1).trans rfl, (blk_cell BK593.out 0).trans rfl, (blk_cell BK593.out 1).trans rfl, (blk_cell BK612.out 0).trans rfl, (blk_cell BK612.out 1).trans rfl⟩ (fun hHeld => ?_)
  clear hK K
  refine nm_ ?_
  refine pu_ 26 (some 185) ?_
  refine pu_ 27 (some 186) ?_
  refine pu_ 28 (some 8) ?_
  refine done_ (done_of HT_.out (by kernel_rfl)) ?_
  try go_wp2
  go_ret
  exact ⟨by first | rfl | (simp [errW_none, errW_some] <;> rfl) | (simp [*, errW_none, errW_some] <;> rfl), HB_⟩
end Go.Proofs.Ytgeemdpflcefkaa.Z

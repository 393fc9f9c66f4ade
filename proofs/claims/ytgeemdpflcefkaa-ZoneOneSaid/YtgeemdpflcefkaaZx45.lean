-- WRITTEN BY this session's program wip/ext.py, in print.py's manner
import Derived.Test.YtgeemdpflcefkaaZx0
import Derived.Test.YtgeemdpflcefkaaZx1
import Derived.Test.YtgeemdpflcefkaaZx3
import Derived.Test.YtgeemdpflcefkaaZx15
import Derived.Test.YtgeemdpflcefkaaZx16
import Derived.Test.YtgeemdpflcefkaaZx17
import Derived.Test.YtgeemdpflcefkaaZx19
import Derived.Test.YtgeemdpflcefkaaZx33
import Derived.Test.YtgeemdpflcefkaaZx35
import Derived.Test.YtgeemdpflcefkaaZx39
import Derived.Test.YtgeemdpflcefkaaZx41
import Derived.Test.YtgeemdpflcefkaaZx42
import Derived.Test.YtgeemdpflcefkaaZx43
import Derived.Test.YtgeemdpflcefkaaZx44
namespace Go.Proofs.Ytgeemdpflcefkaa.Z
open Go.RowKit Go.Proofs.YtgeemdpflcefkaaW.PrintWords Go.Proofs.YtgeemdpflcefkaaW.PrintLast Go.Proofs.YtgeemdpflcefkaaW.PrintMore
attribute [local go_sem] max2_int min2_int max_two min_two max_three min_three max_four min_four   -- for this text's walks alone
set_option linter.unusedVariables false
set_option linter.unusedSimpArgs false

attribute [local go_sem high] eqA39
/-! ### warrantorlaw09_ZoneOne_v4: function 4 -/
def warrantorlaw09_ZoneOne_v4.f (k : Nat) (a0_0 : Int) (l0_1 : List Int) (a1 : Int) (a2 : Int) (a3 : Int) : Option (Bool) := (warrantorref08_Large.f l0_1).bind fun t712 => (if t712 = true then (none) else ((zone_Limit.f k a0_0 l0_1 a1 a2 a3).bind fun bt713 => ((zone_Forget.f k a0_0 l0_1 a1).bind fun bt719 => ((zone_Let.f k a0_0 l0_1 a1 a2 a3).bind fun bt725 => ((zone_Itv.f k a0_0 l0_1 a1).bind fun bt731 => ((warrantorlaw09_lives.f k).bind fun t735 => (if t735 = true then ((warrantorref08_Check.f k a0_0 l0_1).bind fun t736 => (if t736 = true then ((warrantorref09_Var.f a0_0 l0_1 a1).bind fun t737 => ((warrantorref09_Or0.f a0_0 l0_1 a1).bind fun t738 => ((warrantorref09_Or0.f a0_0 l0_1 a2).bind fun t739 => (if t738 = true then (if ((bt713.2.2 == 0) != t739) = true then (none) else (if ((bt719.2.2 == 0) != t737) = true then (none) else (if t737 = true then (none) else (if ((bt725.2.2 == 0) != false) = true then (none) else (if ((bt731.2.2 == 0) != t738) = true then (none) else ((warrantorref09_Itv.f a0_0 l0_1 a1).bind fun bt740 => (if (!(bt731.1 == bt740.1) || (!(bt731.2.1 == bt740.2))) = true then (none) else (if t739 = true then (none) else (some true))))))))) else (none))))) else (none))) else (none))))))))
theorem warrantorlaw09_ZoneOne_v4.mono : ∀ a0 a1 a2 a3 a4 k, LeO (warrantorlaw09_ZoneOne_v4.f k a0 a1 a2 a3 a4) (warrantorlaw09_ZoneOne_v4.f (k + 1) a0 a1 a2 a3 a4) := by
  intro a0 a1 a2 a3 a4 k
  unfold warrantorlaw09_ZoneOne_v4.f
  repeat' first
      | (with_reducible exact warrantorlaw09_lives.mono _)
      | (with_reducible exact warrantorref08_Check.mono _ _ _)
      | (with_reducible exact zone_Forget.mono _ _ _ _)
      | (with_reducible exact zone_Itv.mono _ _ _ _)
      | (with_reducible exact zone_Let.mono _ _ _ _ _ _)
      | (with_reducible exact zone_Limit.mono _ _ _ _ _ _)
      | (with_reducible exact LeO.refl _)
      | (with_reducible exact LeO.none _)
      | (with_reducible refine LeO.ite ?_ ?_)
      | (with_reducible refine LeO.bind ?_ (fun _ => ?_))
      | exact warrantorlaw09_lives.mono _
      | exact warrantorref08_Check.mono _ _ _
      | exact zone_Forget.mono _ _ _ _
      | exact zone_Itv.mono _ _ _ _
      | exact zone_Let.mono _ _ _ _ _ _
      | exact zone_Limit.mono _ _ _ _ _ _
      | exact LeO.none _
      | refine LeO.ite ?_ ?_
      | refine LeO.bind ?_ (fun _ => ?_)
def warrantorlaw09_ZoneOne_v4.T11 : Bool × List (List Nat × List Nat) := (true, [([], []), ([], []), ([0, 1], [0, 1]), ([], []), ([], []), ([3, 4, 2], [3, 4]), ([], []), ([], []), ([6, 7, 5], [6, 7]), ([2, 8, 0, 1, 2], [2]), ([5, 9, 0, 1, 2, 3, 4, 5, 9], [5]), ([8, 10, 0, 1, 2, 3, 4, 5, 6, 7, 8, 9, 10], [8])])
def warrantorlaw09_ZoneOne_v4.B11 : List Nat := [0, 0, 3, 0, 0, 31, 0, 0, 255, 511, 1023, 2047]
theorem warrantorlaw09_ZoneOne_v4.tab11 : rtab .any (opsOf Try.f4 11) = warrantorlaw09_ZoneOne_v4.T11 := by kernel_rfl
theorem warrantorlaw09_ZoneOne_v4.bits11 : waitsOk warrantorlaw09_ZoneOne_v4.T11.2 warrantorlaw09_ZoneOne_v4.B11 = true := by kernel_rfl
def warrantorlaw09_ZoneOne_v4.T16 : Bool × List (List Nat × List Nat) := (true, [([], []), ([], []), ([], []), ([1, 2], [1, 2]), ([0, 3], [0, 3]), ([4, 3], [4]), ([5], [5]), ([6, 5, 5], [5, 6]), ([7], [7]), ([7], [7]), ([7], [7]), ([9, 10, 7, 7], [7, 9, 10]), ([8, 11, 11, 7], [7, 8, 11]), ([12, 7], [7, 12]), ([7, 13, 5], [5, 7, 13]), ([5, 14], [5, 14])])
def warrantorlaw09_ZoneOne_v4.B16 : List Nat := [0, 0, 0, 6, 15, 31, 63, 127, 255, 255, 255, 1791, 4095, 8191, 16383, 32767]
theorem warrantorlaw09_ZoneOne_v4.tab16 : rtab .any (opsOf Try.f4 16) = warrantorlaw09_ZoneOne_v4.T16 := by kernel_rfl
theorem warrantorlaw09_ZoneOne_v4.bits16 : waitsOk warrantorlaw09_ZoneOne_v4.T16.2 warrantorlaw09_ZoneOne_v4.B16 = true := by kernel_rfl
def warrantorlaw09_ZoneOne_v4.T18 : Bool × List (List Nat × List Nat) := (true, [([], []), ([0], [0]), ([1], [1]), ([2], [2]), ([2], [2]), ([2], [2]), ([2], [2]), ([2], [2]), ([4, 5, 6, 7, 2, 2], [2, 4, 5, 6, 7]), ([3, 8, 8, 2], [2, 3, 8]), ([2, 9], [2, 9]), ([10, 9], [10]), ([11], [11]), ([12, 11], [11, 12]), ([13, 11, 11], [11, 13]), ([14], [14]), ([15, 14], [14, 15]), ([14, 16, 11], [11, 14, 16]), ([17, 14, 11], [11, 17]), ([18], [18]), ([18], [18]), ([18], [18]), ([18], [18]), ([18], [18]), ([20, 21, 22, 23, 18, 18], [18, 20, 21, 22, 23]), ([19, 24, 24, 18], [18, 19, 24]), ([18, 25, 11], [11, 18, 25]), ([11, 26], [11, 26]), ([27, 25, 0, 1, 2, 3, 4, 5, 6, 7, 8, 9, 10, 11, 12, 13, 14, 15, 16, 17, 18, 19, 20, 21, 22, 23, 24, 25, 26, 27], [27])])
def warrantorlaw09_ZoneOne_v4.B18 : List Nat := [0, 1, 3, 7, 7, 7, 7, 7, 247, 511, 1023, 2047, 4095, 8191, 16383, 32767, 65535, 131071, 262143, 524287, 524287, 524287, 524287, 524287, 16252927, 33554431, 67108863, 134217727, 268435455]
theorem warrantorlaw09_ZoneOne_v4.tab18 : rtab .any (opsOf Try.f4 18) = warrantorlaw09_ZoneOne_v4.T18 := by kernel_rfl
theorem warrantorlaw09_ZoneOne_v4.bits18 : waitsOk warrantorlaw09_ZoneOne_v4.T18.2 warrantorlaw09_ZoneOne_v4.B18 = true := by kernel_rfl
set_option maxHeartbeats 8000000 in
set_option maxRecDepth 100000 in
theorem warrantorlaw09_ZoneOne_v4.calls (k : Nat) (a0_0 : Int) (A0_1 : Option Addr) (c0_1 : Nat) (l0_1 : List Int) (a1 : Int) (a2 : Int) (a3 : Int) (r : Bool) (w : World) (hr0_1 : Kd.C (Kd.int .i64) w A0_1 l0_1.length l0_1) (hc0_1 : l0_1.length ≤ c0_1) (h : warrantorlaw09_ZoneOne_v4.f k a0_0 l0_1 a1 a2 a3 = some r) :
    Calls Try.prog 4 #[.agg #[.int .i64 a0_0, .slice A0_1 l0_1.length c0_1], .int .i64 a1, .int .i64 a2, .int .i64 a3] w fun e w' => e = .returned (.bool r) ∧ Below w.heap.size w w' := by
  have hu24 := Try.underlying24
  have hu39 := Try.underlying39
  have HR0_1 := Aside0.mk hr0_1
  have HC0_1 := Aside0.mk hc0_1
  clear hr0_1 hc0_1
  have HB := Aside0.mk (Below.refl w.heap.size w)
  have H : ((warrantorref08_Large.f l0_1).bind fun t712 => (if t712 = true then (none) else ((zone_Limit.f k a0_0 l0_1 a1 a2 a3).bind fun bt713 => ((zone_Forget.f k a0_0 l0_1 a1).bind fun bt719 => ((zone_Let.f k a0_0 l0_1 a1 a2 a3).bind fun bt725 => ((zone_Itv.f k a0_0 l0_1 a1).bind fun bt731 => ((warrantorlaw09_lives.f k).bind fun t735 => (if t735 = true then ((warrantorref08_Check.f k a0_0 l0_1).bind fun t736 => (if t736 = true then ((warrantorref09_Var.f a0_0 l0_1 a1).bind fun t737 => ((warrantorref09_Or0.f a0_0 l0_1 a1).bind fun t738 => ((warrantorref09_Or0.f a0_0 l0_1 a2).bind fun t739 => (if t738 = true then (if ((bt713.2.2 == 0) != t739) = true then (none) else (if ((bt719.2.2 == 0) != t737) = true then (none) else (if t737 = true then (none) else (if ((bt725.2.2 == 0) != false) = true then (none) else (if ((bt731.2.2 == 0) != t738) = true then (none) else ((warrantorref09_Itv.f a0_0 l0_1 a1).bind fun bt740 => (if (!(bt731.1 == bt740.1) || (!(bt731.2.1 == bt740.2))) = true then (none) else (if t739 = true then (none) else (some true))))))))) else (none))))) else (none))) else (none))))))))) = some r := h
  clear h
  replace H := bd_ H
  obtain ⟨t712, A5, H⟩ := H
  (try dsimp only at H)
  by_cases c6 : t712 = true
  · subst c6
    replace H := ps1_ H
    exact absurd H (by simp)
  replace c6 := Bool.eq_false_iff.mpr c6
  subst c6
  replace H := ng1_ H
  replace H := bd_ H
  obtain ⟨⟨t713, t714, t717⟩, A7, H⟩ := H
  (try dsimp only at H)
  replace H := bd_ H
  obtain ⟨⟨t719, t720, t723⟩, A8, H⟩ := H
  (try dsimp only at H)
  replace H := bd_ H
  obtain ⟨⟨t725, t726, t729⟩, A9, H⟩ := H
  (try dsimp only at H)
  replace H := bd_ H
  obtain ⟨⟨t731, t732, t733⟩, A10, H⟩ := H
  (try dsimp only at H)
  replace H := bd_ H
  obtain ⟨t735, A11, H⟩ := H
  (try dsimp only at H)
  replace H := yes_ H
  obtain ⟨c12, H⟩ := H
  subst c12
  replace H := bd_ H
  obtain ⟨t736, A13, H⟩ := H
  (try dsimp only at H)
  replace H := yes_ H
  obtain ⟨c14, H⟩ := H
  subst c14
  replace H := bd_ H
  obtain ⟨t737, A15, H⟩ := H
  (try dsimp only at H)
  replace H := bd_ H
  obtain ⟨t738, A16, H⟩ := H
  (try dsimp only at H)
  replace H := bd_ H
  obtain ⟨t739, A17, H⟩ := H
  (try dsimp only at H)
  replace H := yes_ H
  obtain ⟨c18, H⟩ := H
  subst c18
  by_cases c19 : ((t717 == 0) != t739) = true
  · rw [if_pos c19] at H
    exact absurd H (by simp)
  rw [if_neg c19] at H
  have c19b0 : ((t717 == 0) != t739) = false := by simpa using c19
  (try (have c19b1 : decide ((t717 == 0) = t739) = true := by simpa using c19))
  (try (have c19b2 : ((t717 == 0) == t739) = true := by simpa using c19))
  clear c19
  by_cases c20 : ((t723 == 0) != t737) = true
  · rw [if_pos c20] at H
    exact absurd H (by simp)
  rw [if_neg c20] at H
  have c20b0 : ((t723 == 0) != t737) = false := by simpa using c20
  (try (have c20b1 : decide ((t723 == 0) = t737) = true := by simpa using c20))
  (try (have c20b2 : ((t723 == 0) == t737) = true := by simpa using c20))
  clear c20
  by_cases c21 : t737 = true
  · subst c21
    replace H := ps1_ H
    exact absurd H (by simp)
  replace c21 := Bool.eq_false_iff.mpr c21
  subst c21
  replace H := ng1_ H
  by_cases c22 : ((t729 == 0) != false) = true
  · rw [if_pos c22] at H
    exact absurd H (by simp)
  rw [if_neg c22] at H
  have c22b0 : ((t729 == 0) != false) = false := by simpa using c22
  (try (have c22b1 : decide ((t729 == 0) = false) = true := by simpa using c22))
  (try (have c22b2 : ((t729 == 0) == false) = true := by simpa using c22))
  clear c22
  by_cases c23 : ((t733 == 0) != true) = true
  · rw [if_pos c23] at H
    exact absurd H (by simp)
  rw [if_neg c23] at H
  have c23b0 : ((t733 == 0) != true) = false := by simpa using c23
  (try (have c23b1 : decide ((t733 == 0) = true) = true := by simpa using c23))
  (try (have c23b2 : ((t733 == 0) == true) = true := by simpa using c23))
  clear c23
  replace H := bd_ H
  obtain ⟨⟨t740, t741⟩, A24, H⟩ := H
  (try dsimp only at H)
  by_cases c25 : (!(t731 == t740) || (!(t732 == t741))) = true
  · rw [if_pos c25] at H
    exact absurd H (by simp)
  rw [if_neg c25] at H
  have c25b0 : (!(t731 == t740) || (!(t732 == t741))) = false := by simpa using c25
  clear c25
  by_cases c26 : t739 = true
  · subst c26
    replace H := ps1_ H
    exact absurd H (by simp)
  replace c26 := Bool.eq_false_iff.mpr c26
  subst c26
  replace H := ng1_ H
  obtain rfl := Option.some.inj H
  go_enter Try.func4, Try.ntmps4
  try go_wp2_with (first | ((with_reducible refine gate_dst (N := 4) rfl ?_); (try (refine gate_guard (by rfl) ?_; dsimp only)); refine bx_ (N := 4) (cs := #[.int .i64 a0_0, .slice A0_1 l0_1.length c0_1]) (t := 24) ?_; intro gb711 hg w27 hbox hb; have n_ := a_ (bs_ HB hb) (a_ (Aside0.mk hbox) (a_ (gs_ HB hg) (gs_ HB hg))); clear HB; obtain ⟨HB, BK711, GW711, GE711⟩ := n_; clear hb hbox hg; obtain ⟨hcz28_0, hcz28_1, hfz28_0, hfz28_1⟩ := cz2_ BK711) | ((with_reducible refine gate_callee (f := 12) rfl ?_); refine goesL_ (some 22) rfl rfl Try.func12 (by kernel_rfl) rfl #[.slice A0_1 l0_1.length c0_1] rfl MP_ ?_; (with_reducible refine (warrantorref08_Large.calls _ _ l0_1 false _ ?side1 ?side2 A5.out).mono ?_); (case side1 => exact sd_ (Kd.C_below HR0_1.out HB.out)); (case side2 => exact HC0_1.out); rintro e w' ⟨rfl, ⟨nd, rfl⟩⟩; refine ⟨_, rfl, ?_⟩; (try (rw [drewN_self w27]; generalize hq_ : World.drewN w27 _ = w27; have n0_ : Aside0 (w27.heap[gb711]? = some (.cells #[.int .i64 a0_0, .slice A0_1 l0_1.length c0_1] 24 (0, 0))) := ⟨by rw [← hq_]; exact (bk_ BK711.out)⟩; have n1_ : Aside0 (Below w.heap.size w w27) := ⟨by rw [← hq_]; exact HB_⟩; clear BK711 HB hq_; have BK711 := n0_; have HB := n1_; clear n0_ n1_; (try (obtain ⟨hczu_gb711_0, hczu_gb711_1, hfzu_gb711_0, hfzu_gb711_1⟩ := cz2_ BK711))))) | ((with_reducible refine gate_callee (f := 23) rfl ?_); refine goesL_ (some 29) rfl rfl Try.func23 (by kernel_rfl) rfl #[.agg #[.int .i64 a0_0, .slice A0_1 l0_1.length c0_1], .int .i64 a1, .int .i64 a2, .int .i64 a3] rfl MP_ ?_; (with_reducible refine (zone_Limit.calls k a0_0 _ _ l0_1 a1 a2 a3 t713 t714 t717 _ ?side1 ?side2 A7.out).mono ?_); (case side1 => exact sd_ (Kd.C_below HR0_1.out HB.out)); (case side2 => exact HC0_1.out); rintro e w29 ⟨v715, rfl, ho0, hb⟩; refine ⟨_, rfl, ?_⟩; have n_ := a_ (Aside0.mk (Kd.R_lower ho0 (below_size HB_))) (a_ (bb_ BK711 hb) (bs_ HB hb)); clear BK711 HB; obtain ⟨HO716, BK711, HB⟩ := n_; (try clear hb); (try clear hb2); (try clear hk); (try clear hi); (try clear ho0)) | ((with_reducible refine gate_dst (N := 9) rfl ?_); (try (refine gate_guard (by rfl) ?_; dsimp only)); refine bx_ (N := 9) (cs := #[.int .i64 0, .slice none 0 0]) (t := 24) ?_; intro gb718 hg w30 hbox hb; have n_ := a_ (rb_ HO716 hb) (a_ (bb_ BK711 hb) (a_ (bs_ HB hb) (a_ (Aside0.mk hbox) (a_ (gs_ HB hg) (a_ (gs_ HB hg) (a_ (nl_ BK711 hg) (ng_ BK711 hg))))))); clear HO716 BK711 HB; obtain ⟨HO716, BK711, HB, BK718, GW718, GE718, NB711_718, NB718_711⟩ := n_; clear hb hbox hg; have hnb31 := NB718_711.out; have hnc31 := NB711_718.out; obtain ⟨hcz32_0, hcz32_1, hfz32_0, hfz32_1⟩ := cz2_ BK718; obtain ⟨Ao33, co33, eo33⟩ := Kd.R_slice HO716.out; subst eo33; obtain ⟨hcz34_0, hcz34_1, hfz34_0, hfz34_1⟩ := cz2_ BK711) | ((with_reducible refine gate_callee (f := 24) rfl ?_); refine goesL_ (some 35) rfl rfl Try.func24 (by kernel_rfl) rfl #[.agg #[.int .i64 a0_0, .slice A0_1 l0_1.length c0_1], .int .i64 a1] rfl MP_ ?_; (with_reducible refine (zone_Forget.calls k a0_0 _ _ l0_1 a1 t719 t720 t723 _ ?side1 ?side2 A8.out).mono ?_); (case side1 => exact Kd.C_below HR0_1.out HB_); (case side2 => exact HC0_1.out); rintro e w35 ⟨v721, rfl, ho0, hb⟩; refine ⟨_, rfl, ?_⟩; have n_ := a_ (Aside0.mk (Kd.R_elder' (rd_ (rf2_ HO716 BK718 (.int .i64 t713) (.slice Ao33 t714.length co33))) (Kd.R_base ho0) hb)) (a_ (Aside0.mk (Kd.R_lower (Kd.R_new' ho0 (Kd.R_lt (rd_ (rf2_ HO716 BK718 (.int .i64 t713) (.slice Ao33 t714.length co33))))) (below_size HB_))) (a_ (bc_ #[.int .i64 a0_0, .slice A0_1 l0_1.length c0_1] 24 BK711 hb) (a_ (bc_ #[.int .i64 t713, .slice Ao33 t714.length co33] 24 BK718 hb) (bs_ HB hb)))); clear HO716 BK711 BK718 HB; obtain ⟨HO716, HO722, BK711, BK718, HB⟩ := n_; (try clear hb); (try clear hb2); (try clear hk); (try clear hi); (try clear ho0)) | ((with_reducible refine gate_dst (N := 11) rfl ?_); (try (refine gate_guard (by rfl) ?_; dsimp only)); refine bx_ (N := 11) (cs := #[.int .i64 0, .slice none 0 0]) (t := 24) ?_; intro gb724 hg w36 hbox hb; have n_ := a_ (rb_ HO716 hb) (a_ (rb_ HO722 hb) (a_ (bb_ BK711 hb) (a_ (bb_ BK718 hb) (a_ (bs_ HB hb) (a_ (Aside0.mk hbox) (a_ (gs_ HB hg) (a_ (gs_ HB hg) (a_ (nl_ BK711 hg) (a_ (ng_ BK711 hg) (a_ (nl_ BK718 hg) (ng_ BK718 hg))))))))))); clear HO716 HO722 BK711 BK718 HB; obtain ⟨HO716, HO722, BK711, BK718, HB, BK724, GW724, GE724, NB711_724, NB724_711, NB718_724, NB724_718⟩ := n_; clear hb hbox hg; have hnb37 := NB724_711.out; have hnc37 := NB711_724.out; have hnb38 := NB724_718.out; have hnc38 := NB718_724.out; obtain ⟨hcz39_0, hcz39_1, hfz39_0, hfz39_1⟩ := cz2_ BK724; obtain ⟨Ao40, co40, eo40⟩ := Kd.R_slice HO722.out; subst eo40; obtain ⟨hcz41_0, hcz41_1, hfz41_0, hfz41_1⟩ := cz2_ BK711) | ((with_reducible refine gate_callee (f := 25) rfl ?_); refine goesL_ (some 43) rfl rfl Try.func25 (by kernel_rfl) rfl #[.agg #[.int .i64 a0_0, .slice A0_1 l0_1.length c0_1], .int .i64 a1, .int .i64 a2, .int .i64 a3] rfl MP_ ?_; (with_reducible refine (zone_Let.calls k a0_0 _ _ l0_1 a1 a2 a3 t725 t726 t729 _ ?side1 ?side2 A9.out).mono ?_); (case side1 => exact Kd.C_below HR0_1.out HB_); (case side2 => exact HC0_1.out); rintro e w42 ⟨v727, rfl, ho0, hb⟩; refine ⟨_, rfl, ?_⟩; have n_ := a_ (Aside0.mk (Kd.R_elder' (rd_ (rf2_ HO716 BK724 (.int .i64 t719) (.slice Ao40 t720.length co40))) (Kd.R_base ho0) hb)) (a_ (Aside0.mk (Kd.R_elder' (rd_ (rf2_ HO722 BK724 (.int .i64 t719) (.slice Ao40 t720.length co40))) (Kd.R_base ho0) hb)) (a_ (Aside0.mk (Kd.R_lower (Kd.R_new' (Kd.R_new' ho0 (Kd.R_lt (rd_ (rf2_ HO716 BK724 (.int .i64 t719) (.slice Ao40 t720.length co40))))) (Kd.R_lt (rd_ (rf2_ HO722 BK724 (.int .i64 t719) (.slice Ao40 t720.length co40))))) (below_size HB_))) (a_ (bc_ #[.int .i64 a0_0, .slice A0_1 l0_1.length c0_1] 24 BK711 hb) (a_ (bc_ #[.int .i64 t713, .slice Ao33 t714.length co33] 24 BK718 hb) (a_ (bc_ #[.int .i64 t719, .slice Ao40 t720.length co40] 24 BK724 hb) (bs_ HB hb)))))); clear HO716 HO722 BK711 BK718 BK724 HB; obtain ⟨HO716, HO722, HO728, BK711, BK718, BK724, HB⟩ := n_; (try clear hb); (try clear hb2); (try clear hk); (try clear hi); (try clear ho0)) | ((with_reducible refine gate_dst (N := 13) rfl ?_); (try (refine gate_guard (by rfl) ?_; dsimp only)); refine bx_ (N := 13) (cs := #[.int .i64 0, .slice none 0 0]) (t := 24) ?_; intro gb730 hg w43 hbox hb; have n_ := a_ (rb_ HO716 hb) (a_ (rb_ HO722 hb) (a_ (rb_ HO728 hb) (a_ (bb_ BK711 hb) (a_ (bb_ BK718 hb) (a_ (bb_ BK724 hb) (a_ (bs_ HB hb) (a_ (Aside0.mk hbox) (a_ (gs_ HB hg) (a_ (gs_ HB hg) (a_ (nl_ BK711 hg) (a_ (ng_ BK711 hg) (a_ (nl_ BK718 hg) (a_ (ng_ BK718 hg) (a_ (nl_ BK724 hg) (ng_ BK724 hg))))))))))))))); clear HO716 HO722 HO728 BK711 BK718 BK724 HB; obtain ⟨HO716, HO722, HO728, BK711, BK718, BK724, HB, BK730, GW730, GE730, NB711_730, NB730_711, NB718_730, NB730_718, NB724_730, NB730_724⟩ := n_; clear hb hbox hg; have hnb44 := NB730_711.out; have hnc44 := NB711_730.out; have hnb45 := NB730_718.out; have hnc45 := NB718_730.out; have hnb46 := NB730_724.out; have hnc46 := NB724_730.out; obtain ⟨hcz47_0, hcz47_1, hfz47_0, hfz47_1⟩ := cz2_ BK730; obtain ⟨Ao48, co48, eo48⟩ := Kd.R_slice HO728.out; subst eo48; obtain ⟨hcz49_0, hcz49_1, hfz49_0, hfz49_1⟩ := cz2_ BK711) | ((with_reducible refine gate_callee (f := 26) rfl ?_); refine goesL_ (some 49) rfl rfl Try.func26 (by kernel_rfl) rfl #[.agg #[.int .i64 a0_0, .slice A0_1 l0_1.length c0_1], .int .i64 a1] rfl MP_ ?_; (with_reducible refine (zone_Itv.calls k a0_0 _ _ l0_1 a1 t731 t732 t733 _ ?side1 ?side2 A10.out).mono ?_); (case side1 => exact Kd.C_below HR0_1.out HB_); (case side2 => exact HC0_1.out); rintro e w50 ⟨rfl, hb⟩; refine ⟨_, rfl, ?_⟩; have n_ := a_ (Aside0.mk (Kd.R_below (rd_ (rf2_ HO716 BK730 (.int .i64 t725) (.slice Ao48 t726.length co48))) hb)) (a_ (Aside0.mk (Kd.R_below (rd_ (rf2_ HO722 BK730 (.int .i64 t725) (.slice Ao48 t726.length co48))) hb)) (a_ (Aside0.mk (Kd.R_below (rd_ (rf2_ HO728 BK730 (.int .i64 t725) (.slice Ao48 t726.length co48))) hb)) (a_ (bc_ #[.int .i64 a0_0, .slice A0_1 l0_1.length c0_1] 24 BK711 hb) (a_ (bc_ #[.int .i64 t713, .slice Ao33 t714.length co33] 24 BK718 hb) (a_ (bc_ #[.int .i64 t719, .slice Ao40 t720.length co40] 24 BK724 hb) (a_ (bc_ #[.int .i64 t725, .slice Ao48 t726.length co48] 24 BK730 hb) (bs_ HB hb))))))); clear HO716 HO722 HO728 BK711 BK718 BK724 BK730 HB; obtain ⟨HO716, HO722, HO728, BK711, BK718, BK724, BK730, HB⟩ := n_; (try clear hb); (try clear hb2); (try clear hk); (try clear hi)) | ((with_reducible refine gate_dst (N := 15) rfl ?_); (try (refine gate_guard (by rfl) ?_; dsimp only)); refine bx_ (N := 15) (cs := #[.int .i64 0, .int .i64 0]) (t := 39) ?_; intro gb734 hg w51 hbox hb; have n_ := a_ (rb_ HO716 hb) (a_ (rb_ HO722 hb) (a_ (rb_ HO728 hb) (a_ (bb_ BK711 hb) (a_ (bb_ BK718 hb) (a_ (bb_ BK724 hb) (a_ (bb_ BK730 hb) (a_ (bs_ HB hb) (a_ (Aside0.mk hbox) (a_ (gs_ HB hg) (a_ (gs_ HB hg) (a_ (nl_ BK711 hg) (a_ (ng_ BK711 hg) (a_ (nl_ BK718 hg) (a_ (ng_ BK718 hg) (a_ (nl_ BK724 hg) (a_ (ng_ BK724 hg) (a_ (nl_ BK730 hg) (ng_ BK730 hg)))))))))))))))))); clear HO716 HO722 HO728 BK711 BK718 BK724 BK730 HB; obtain ⟨HO716, HO722, HO728, BK711, BK718, BK724, BK730, HB, BK734, GW734, GE734, NB711_734, NB734_711, NB718_734, NB734_718, NB724_734, NB734_724, NB730_734, NB734_730⟩ := n_; clear hb hbox hg; have hnb52 := NB734_711.out; have hnc52 := NB711_734.out; have hnb53 := NB734_718.out; have hnc53 := NB718_734.out; have hnb54 := NB734_724.out; have hnc54 := NB724_734.out; have hnb55 := NB734_730.out; have hnc55 := NB730_734.out; obtain ⟨hcz56_0, hcz56_1, hfz56_0, hfz56_1⟩ := cz2_ BK734) | ((with_reducible refine gate_callee (f := 22) rfl ?_); refine goesL_ (some 52) rfl rfl Try.func22 (by kernel_rfl) rfl #[] rfl MP_ ?_; (with_reducible refine (warrantorlaw09_lives.calls k  true _ A11.out).mono ?_); rintro e w57 ⟨rfl, hb⟩; refine ⟨_, rfl, ?_⟩; have n_ := a_ (Aside0.mk (Kd.R_below (rd_ (rf2_ HO716 BK734 (.int .i64 t731) (.int .i64 t732))) hb)) (a_ (Aside0.mk (Kd.R_below (rd_ (rf2_ HO722 BK734 (.int .i64 t731) (.int .i64 t732))) hb)) (a_ (Aside0.mk (Kd.R_below (rd_ (rf2_ HO728 BK734 (.int .i64 t731) (.int .i64 t732))) hb)) (a_ (bc_ #[.int .i64 a0_0, .slice A0_1 l0_1.length c0_1] 24 BK711 hb) (a_ (bc_ #[.int .i64 t713, .slice Ao33 t714.length co33] 24 BK718 hb) (a_ (bc_ #[.int .i64 t719, .slice Ao40 t720.length co40] 24 BK724 hb) (a_ (bc_ #[.int .i64 t725, .slice Ao48 t726.length co48] 24 BK730 hb) (a_ (bc_ #[.int .i64 t731, .int .i64 t732] 39 BK734 hb) (bs_ HB hb)))))))); clear HO716 HO722 HO728 BK711 BK718 BK724 BK730 BK734 HB; obtain ⟨HO716, HO722, HO728, BK711, BK718, BK724, BK730, BK734, HB⟩ := n_; (try clear hb); (try clear hb2); (try clear hk); (try clear hi); obtain ⟨hcz58_0, hcz58_1, hfz58_0, hfz58_1⟩ := cz2_ BK711) | ((with_reducible refine gate_callee (f := 27) rfl ?_); refine goesL_ (some 55) rfl rfl Try.func27 (by kernel_rfl) rfl #[.agg #[.int .i64 a0_0, .slice A0_1 l0_1.length c0_1]] rfl MP_ ?_; (with_reducible refine (warrantorref08_Check.calls k a0_0 _ _ l0_1 true _ ?side1 ?side2 A13.out).mono ?_); (case side1 => exact sd_ (Kd.C_below HR0_1.out HB.out)); (case side2 => exact HC0_1.out); rintro e w59 ⟨rfl, hb⟩; refine ⟨_, rfl, ?_⟩; have n_ := a_ (rb_ HO716 hb) (a_ (rb_ HO722 hb) (a_ (rb_ HO728 hb) (a_ (bb_ BK711 hb) (a_ (bb_ BK718 hb) (a_ (bb_ BK724 hb) (a_ (bb_ BK730 hb) (a_ (bb_ BK734 hb) (bs_ HB hb)))))))); clear HO716 HO722 HO728 BK711 BK718 BK724 BK730 BK734 HB; obtain ⟨HO716, HO722, HO728, BK711, BK718, BK724, BK730, BK734, HB⟩ := n_; (try clear hb); (try clear hb2); (try clear hk); (try clear hi)))
  first | (obtain ⟨w59, hq_⟩ : ∃ x, x = w59.drewN nd := ⟨_, rfl⟩; rw [← hq_]; have q0_ := Aside0.mk (Kd.R_drewN HO716.out nd); rw [← hq_] at q0_; have q1_ := Aside0.mk (Kd.R_drewN HO722.out nd); rw [← hq_] at q1_; have q2_ := Aside0.mk (Kd.R_drewN HO728.out nd); rw [← hq_] at q2_; have q3_ := Aside0.mk (blk_drewN BK711.out nd); rw [← hq_] at q3_; have q4_ := Aside0.mk (blk_drewN BK718.out nd); rw [← hq_] at q4_; have q5_ := Aside0.mk (blk_drewN BK724.out nd); rw [← hq_] at q5_; have q6_ := Aside0.mk (blk_drewN BK730.out nd); rw [← hq_] at q6_; have q7_ := Aside0.mk (blk_drewN BK734.out nd); rw [← hq_] at q7_; have q8_ := Aside0.mk (pw_below_drewN HB.out nd); rw [← hq_] at q8_; clear HO716; clear HO722; clear HO728; clear BK711; clear BK718; clear BK724; clear BK730; clear BK734; clear HB; have HO716 := q0_; have HO722 := q1_; have HO728 := q2_; have BK711 := q3_; have BK718 := q4_; have BK724 := q5_; have BK730 := q6_; have BK734 := q7_; have HB := q8_; clear hq_ q0_ q1_ q2_ q3_ q4_ q5_ q6_ q7_ q8_) | skip
  have n_ := a_ (Aside0.mk (Kd.R_drew HO716.out)) (a_ (Aside0.mk (Kd.R_drew HO722.out)) (a_ (Aside0.mk (Kd.R_drew HO728.out)) (a_ (Aside0.mk (blk_drew BK711.out)) (a_ (Aside0.mk (blk_drew BK718.out)) (a_ (Aside0.mk (blk_drew BK724.out)) (a_ (Aside0.mk (blk_drew BK730.out)) (a_ (Aside0.mk (blk_drew BK734.out)) (Aside0.mk (below_drew1 HB.out)))))))))
  clear HO716 HO722 HO728 BK711 BK718 BK724 BK730 BK734 HB
  obtain ⟨HO716, HO722, HO728, BK711, BK718, BK724, BK730, BK734, HB⟩ := n_
  refine start_ (n := 12) (S := fun w' => w'.cell? ⟨gb711, 0, none⟩ = some (.int .i64 a0_0) ∧ w'.cell? ⟨gb711, 1, none⟩ = some (.slice A0_1 l0_1.length c0_1)) (ds := []) #[false, false, false, false, false, false, false, false, false, false, false, false] (by kernel_rfl) rfl rfl ⟨(blk_cell BK711.out 0).trans rfl, (blk_cell BK711.out 1).trans rfl⟩ (fun hHeld => ?_); refine with_tabW warrantorlaw09_ZoneOne_v4.tab11 warrantorlaw09_ZoneOne_v4.bits11 (fun HT_ HW_ => ?_)
  generalize w59.drew = w60 at HO716 HO722 HO728 BK711 BK718 BK724 BK730 BK734 HB hHeld ⊢
  refine pu_ 1 (some 91) ?_
  refine pu_ 4 (some 94) ?_
  refine pu_ 7 (some 97) ?_
  refine take_ (i := 0) (N := some 90) (v := ?_) (a' := ?_) #[true, true, false, false, true, false, false, true, false, false, false, false] rfl rfl (take_ofW HT_.out HW_.out (by kernel_rfl)) (fun _ _ _ h => h) (Or.inl ⟨by rfl, ?_⟩) hHeld ?_ ?_
  rotate_left
  · rintro w' ⟨s0, s1⟩
    go_simp
    with_reducible rfl
  rotate_left
  · exact AP_
  refine take_ (i := 3) (N := some 93) (v := ?_) (a' := ?_) #[true, true, false, true, true, false, false, true, false, false, false, false] rfl rfl (take_ofW HT_.out HW_.out (by kernel_rfl)) (fun _ _ _ h => h) (Or.inl ⟨by rfl, ?_⟩) hHeld ?_ ?_
  rotate_left
  · rintro w' ⟨s0, s1⟩
    go_simp
    with_reducible rfl
  rotate_left
  · exact AP_
  refine take_ (i := 6) (N := some 96) (v := ?_) (a' := ?_) #[true, true, false, true, true, false, true, true, false, false, false, false] rfl rfl (take_ofW HT_.out HW_.out (by kernel_rfl)) (fun _ _ _ h => h) (Or.inl ⟨by rfl, ?_⟩) hHeld ?_ ?_
  rotate_left
  · rintro w' ⟨s0, s1⟩
    go_simp
    with_reducible rfl
  rotate_left
  · exact AP_
  refine on_ 2 (some 92) (fun K hK => ?_)
  refine goes_ Try.func28 (by kernel_rfl) rfl #[.agg #[.int .i64 a0_0, .slice A0_1 l0_1.length c0_1], .int .i64 a1] (by rfl) rfl rfl MP_ ?_
  with_reducible refine (warrantorref09_Var.calls a0_0 _ _ l0_1 a1 false _ ?side1 ?side2 A15.out).mono ?_
  (case side1 => exact sd_ (Kd.C_below HR0_1.out HB.out))
  (case side2 => exact HC0_1.out)
  rintro e w61 ⟨rfl, hb⟩
  refine ⟨_, rfl, ?_⟩
  have n_ := a_ (rb_ HO716 hb) (a_ (rb_ HO722 hb) (a_ (rb_ HO728 hb) (a_ (bb_ BK711 hb) (a_ (bb_ BK718 hb) (a_ (bb_ BK724 hb) (a_ (bb_ BK730 hb) (a_ (bb_ BK734 hb) (bs_ HB hb))))))))
  clear HO716 HO722 HO728 BK711 BK718 BK724 BK730 BK734 HB
  obtain ⟨HO716, HO722, HO728, BK711, BK718, BK724, BK730, BK734, HB⟩ := n_
  (try clear hb)
  (try clear hb2)
  (try clear hk)
  (try clear hi)
  refine hK.out _ _ ⟨(blk_cell BK711.out 0).trans rfl, (blk_cell BK711.out 1).trans rfl⟩ (fun hHeld => ?_)
  clear hK K
  refine nm_ ?_
  refine on_ 5 (some 95) (fun K hK => ?_)
  refine goes_ Try.func29 (by kernel_rfl) rfl #[.agg #[.int .i64 a0_0, .slice A0_1 l0_1.length c0_1], .int .i64 a1] (by rfl) rfl rfl MP_ ?_
  with_reducible refine (warrantorref09_Or0.calls a0_0 _ _ l0_1 a1 true _ ?side1 ?side2 A16.out).mono ?_
  (case side1 => exact sd_ (Kd.C_below HR0_1.out HB.out))
  (case side2 => exact HC0_1.out)
  rintro e w62 ⟨rfl, hb⟩
  refine ⟨_, rfl, ?_⟩
  have n_ := a_ (rb_ HO716 hb) (a_ (rb_ HO722 hb) (a_ (rb_ HO728 hb) (a_ (bb_ BK711 hb) (a_ (bb_ BK718 hb) (a_ (bb_ BK724 hb) (a_ (bb_ BK730 hb) (a_ (bb_ BK734 hb) (bs_ HB hb))))))))
  clear HO716 HO722 HO728 BK711 BK718 BK724 BK730 BK734 HB
  obtain ⟨HO716, HO722, HO728, BK711, BK718, BK724, BK730, BK734, HB⟩ := n_
  (try clear hb)
  (try clear hb2)
  (try clear hk)
  (try clear hi)
  refine hK.out _ _ ⟨(blk_cell BK711.out 0).trans rfl, (blk_cell BK711.out 1).trans rfl⟩ (fun hHeld => ?_)
  clear hK K
  refine nm_ ?_
  refine on_ 8 (some 98) (fun K hK => ?_)
  refine goes_ Try.func29 (by kernel_rfl) rfl #[.agg #[.int .i64 a0_0, .slice A0_1 l0_1.length c0_1], .int .i64 a2] (by rfl) rfl rfl MP_ ?_
  with_reducible refine (warrantorref09_Or0.calls a0_0 _ _ l0_1 a2 false _ ?side1 ?side2 A17.out).mono ?_
  (case side1 => exact sd_ (Kd.C_below HR0_1.out HB.out))
  (case side2 => exact HC0_1.out)
  rintro e w63 ⟨rfl, hb⟩
  refine ⟨_, rfl, ?_⟩
  have n_ := a_ (rb_ HO716 hb) (a_ (rb_ HO722 hb) (a_ (rb_ HO728 hb) (a_ (bb_ BK711 hb) (a_ (bb_ BK718 hb) (a_ (bb_ BK724 hb) (a_ (bb_ BK730 hb) (a_ (bb_ BK734 hb) (bs_ HB hb))))))))
  clear HO716 HO722 HO728 BK711 BK718 BK724 BK730 BK734 HB
  obtain ⟨HO716, HO722, HO728, BK711, BK718, BK724, BK730, BK734, HB⟩ := n_
  (try clear hb)
  (try clear hb2)
  (try clear hk)
  (try clear hi)
  refine hK.out _ _ ⟨(blk_cell BK711.out 0).trans rfl, (blk_cell BK711.out 1).trans rfl⟩ (fun hHeld => ?_)
  clear hK K
  refine nm_ ?_
  refine pu_ 9 (some 17) ?_
  refine pu_ 10 (some 18) ?_
  refine pu_ 11 (some 19) ?_
  refine done_ (done_of HT_.out (by kernel_rfl)) ?_
  try go_wp2
  first | (obtain ⟨w63, hq_⟩ : ∃ x, x = w63.drewN nd := ⟨_, rfl⟩; rw [← hq_]; have q0_ := Aside0.mk (Kd.R_drewN HO716.out nd); rw [← hq_] at q0_; have q1_ := Aside0.mk (Kd.R_drewN HO722.out nd); rw [← hq_] at q1_; have q2_ := Aside0.mk (Kd.R_drewN HO728.out nd); rw [← hq_] at q2_; have q3_ := Aside0.mk (blk_drewN BK711.out nd); rw [← hq_] at q3_; have q4_ := Aside0.mk (blk_drewN BK718.out nd); rw [← hq_] at q4_; have q5_ := Aside0.mk (blk_drewN BK724.out nd); rw [← hq_] at q5_; have q6_ := Aside0.mk (blk_drewN BK730.out nd); rw [← hq_] at q6_; have q7_ := Aside0.mk (blk_drewN BK734.out nd); rw [← hq_] at q7_; have q8_ := Aside0.mk (pw_below_drewN HB.out nd); rw [← hq_] at q8_; clear HO716; clear HO722; clear HO728; clear BK711; clear BK718; clear BK724; clear BK730; clear BK734; clear HB; have HO716 := q0_; have HO722 := q1_; have HO728 := q2_; have BK711 := q3_; have BK718 := q4_; have BK724 := q5_; have BK730 := q6_; have BK734 := q7_; have HB := q8_; clear hq_ q0_ q1_ q2_ q3_ q4_ q5_ q6_ q7_ q8_) | skip
  have n_ := a_ (Aside0.mk (Kd.R_drew HO716.out)) (a_ (Aside0.mk (Kd.R_drew HO722.out)) (a_ (Aside0.mk (Kd.R_drew HO728.out)) (a_ (Aside0.mk (blk_drew BK711.out)) (a_ (Aside0.mk (blk_drew BK718.out)) (a_ (Aside0.mk (blk_drew BK724.out)) (a_ (Aside0.mk (blk_drew BK730.out)) (a_ (Aside0.mk (blk_drew BK734.out)) (Aside0.mk (below_drew1 HB.out)))))))))
  clear HO716 HO722 HO728 BK711 BK718 BK724 BK730 BK734 HB
  obtain ⟨HO716, HO722, HO728, BK711, BK718, BK724, BK730, BK734, HB⟩ := n_
  refine start_ (n := 16) (S := fun w' => w'.cell? ⟨gb734, 0, none⟩ = some (.int .i64 t731) ∧ w'.cell? ⟨gb734, 1, none⟩ = some (.int .i64 t732) ∧ w'.cell? ⟨gb711, 0, none⟩ = some (.int .i64 a0_0) ∧ w'.cell? ⟨gb711, 1, none⟩ = some (.slice A0_1 l0_1.length c0_1)) (ds := []) #[false, false, false, false, false, false, false, false, false, false, false, false, false, false, false, false] (by kernel_rfl) rfl rfl ⟨(blk_cell BK734.out 0).trans rfl, (blk_cell BK734.out 1).trans rfl, (blk_cell BK711.out 0).trans rfl, (blk_cell BK711.out 1).trans rfl⟩ (fun hHeld => ?_); refine with_tabW warrantorlaw09_ZoneOne_v4.tab16 warrantorlaw09_ZoneOne_v4.bits16 (fun HT_ HW_ => ?_)
  generalize w63.drew = w64 at HO716 HO722 HO728 BK711 BK718 BK724 BK730 BK734 HB hHeld ⊢
  refine pu_ 2 (some 145) ?_
  refine take_ (i := 0) (N := some 143) (v := ?_) (a' := ?_) #[true, false, true, false, false, false, false, false, false, false, false, false, false, false, false, false] rfl rfl (take_ofW HT_.out HW_.out (by kernel_rfl)) (fun _ _ _ h => h) (Or.inl ⟨by rfl, ?_⟩) hHeld ?_ ?_
  rotate_left
  · rintro w' ⟨s0, s1, s2, s3⟩
    go_simp
    with_reducible rfl
  rotate_left
  · exact AP_
  refine take_ (i := 1) (N := some 144) (v := ?_) (a' := ?_) #[true, true, true, false, false, false, false, false, false, false, false, false, false, false, false, false] rfl rfl (take_ofW HT_.out HW_.out (by kernel_rfl)) (fun _ _ _ h => h) (Or.inl ⟨by rfl, ?_⟩) hHeld ?_ ?_
  rotate_left
  · rintro w' ⟨s0, s1, s2, s3⟩
    go_simp
    with_reducible rfl
  rotate_left
  · exact AP_
  refine on_ 3 (some 146) (fun K hK => ?_)
  refine goes_ Try.func30 (by kernel_rfl) rfl #[.agg #[.int .i64 a0_0, .slice A0_1 l0_1.length c0_1], .int .i64 a1] (by rfl) rfl rfl MP_ ?_
  with_reducible refine (warrantorref09_Itv.calls a0_0 _ _ l0_1 a1 t740 t741 _ ?side1 ?side2 A24.out).mono ?_
  (case side1 => exact sd_ (Kd.C_below HR0_1.out HB.out))
  (case side2 => exact HC0_1.out)
  rintro e w65 ⟨rfl, hb⟩
  refine ⟨_, rfl, ?_⟩
  have n_ := a_ (rb_ HO716 hb) (a_ (rb_ HO722 hb) (a_ (rb_ HO728 hb) (a_ (bb_ BK711 hb) (a_ (bb_ BK718 hb) (a_ (bb_ BK724 hb) (a_ (bb_ BK730 hb) (a_ (bb_ BK734 hb) (bs_ HB hb))))))))
  clear HO716 HO722 HO728 BK711 BK718 BK724 BK730 BK734 HB
  obtain ⟨HO716, HO722, HO728, BK711, BK718, BK724, BK730, BK734, HB⟩ := n_
  (try clear hb)
  (try clear hb2)
  (try clear hk)
  (try clear hi)
  refine hK.out _ _ ⟨(blk_cell BK734.out 0).trans rfl, (blk_cell BK734.out 1).trans rfl, (blk_cell BK711.out 0).trans rfl, (blk_cell BK711.out 1).trans rfl⟩ (fun hHeld => ?_)
  clear hK K
  refine nm_ ?_
  refine pu_ 4 (some 147) ?_
  refine pu_ 5 (some 148) ?_
  refine pu_ 6 (some 149) ?_
  refine pu_ 7 (some 150) ?_
  refine pv_ 8 (some 151) ?_
  refine pv_ 9 (some 152) ?_
  refine pv_ 10 (some 153) ?_
  refine pv_ 11 (some 154) ?_
  refine pv_ 12 (some 155) ?_
  refine pv_ 13 (some 156) ?_
  refine pu_ 14 (some 157) ?_
  refine pu_ 15 (some 158) ?_
  refine done_ (done_of HT_.out (by kernel_rfl)) ?_
  try go_wp2
  first | (obtain ⟨w65, hq_⟩ : ∃ x, x = w65.drewN nd := ⟨_, rfl⟩; rw [← hq_]; have q0_ := Aside0.mk (Kd.R_drewN HO716.out nd); rw [← hq_] at q0_; have q1_ := Aside0.mk (Kd.R_drewN HO722.out nd); rw [← hq_] at q1_; have q2_ := Aside0.mk (Kd.R_drewN HO728.out nd); rw [← hq_] at q2_; have q3_ := Aside0.mk (blk_drewN BK711.out nd); rw [← hq_] at q3_; have q4_ := Aside0.mk (blk_drewN BK718.out nd); rw [← hq_] at q4_; have q5_ := Aside0.mk (blk_drewN BK724.out nd); rw [← hq_] at q5_; have q6_ := Aside0.mk (blk_drewN BK730.out nd); rw [← hq_] at q6_; have q7_ := Aside0.mk (blk_drewN BK734.out nd); rw [← hq_] at q7_; have q8_ := Aside0.mk (pw_below_drewN HB.out nd); rw [← hq_] at q8_; clear HO716; clear HO722; clear HO728; clear BK711; clear BK718; clear BK724; clear BK730; clear BK734; clear HB; have HO716 := q0_; have HO722 := q1_; have HO728 := q2_; have BK711 := q3_; have BK718 := q4_; have BK724 := q5_; have BK730 := q6_; have BK734 := q7_; have HB := q8_; clear hq_ q0_ q1_ q2_ q3_ q4_ q5_ q6_ q7_ q8_) | skip
  have n_ := a_ (Aside0.mk (Kd.R_drew HO716.out)) (a_ (Aside0.mk (Kd.R_drew HO722.out)) (a_ (Aside0.mk (Kd.R_drew HO728.out)) (a_ (Aside0.mk (blk_drew BK711.out)) (a_ (Aside0.mk (blk_drew BK718.out)) (a_ (Aside0.mk (blk_drew BK724.out)) (a_ (Aside0.mk (blk_drew BK730.out)) (a_ (Aside0.mk (blk_drew BK734.out)) (Aside0.mk (below_drew1 HB.out)))))))))
  clear HO716 HO722 HO728 BK711 BK718 BK724 BK730 BK734 HB
  obtain ⟨HO716, HO722, HO728, BK711, BK718, BK724, BK730, BK734, HB⟩ := n_
  refine start_ (n := 29) (S := fun w' => True) (ds := []) #[false, false, false, false, false, false, false, false, false, false, false, false, false, false, false, false, false, false, false, false, false, false, false, false, false, false, false, false, false] (by kernel_rfl) rfl rfl trivial (fun hHeld => ?_); refine with_tabW warrantorlaw09_ZoneOne_v4.tab18 warrantorlaw09_ZoneOne_v4.bits18 (fun HT_ HW_ => ?_)
  generalize w65.drew = w66 at HO716 HO722 HO728 BK711 BK718 BK724 BK730 BK734 HB hHeld ⊢
  refine pu_ 0 (some 159) ?_
  refine pu_ 1 (some 160) ?_
  refine pu_ 2 (some 161) ?_
  refine pv_ 3 (some 162) ?_
  refine pv_ 4 (some 163) ?_
  refine pv_ 5 (some 164) ?_
  refine pv_ 6 (some 165) ?_
  refine pv_ 7 (some 166) ?_
  refine pv_ 8 (some 167) ?_
  refine pv_ 9 (some 168) ?_
  refine pu_ 10 (some 169) ?_
  refine pu_ 11 (some 170) ?_
  refine pu_ 12 (some 171) ?_
  refine pu_ 13 (some 172) ?_
  refine pu_ 14 (some 173) ?_
  refine pv_ 15 (some 174) ?_
  refine pv_ 16 (some 175) ?_
  refine pu_ 17 (some 176) ?_
  refine pu_ 18 (some 177) ?_
  refine pv_ 19 (some 178) ?_
  refine pv_ 20 (some 179) ?_
  refine pv_ 21 (some 180) ?_
  refine pv_ 22 (some 181) ?_
  refine pv_ 23 (some 182) ?_
  refine pv_ 24 (some 183) ?_
  refine pv_ 25 (some 184) ?_
  refine pu_ 26 (some 185) ?_
  refine pu_ 27 (some 186) ?_
  refine pu_ 28 (some 8) ?_
  refine done_ (done_of HT_.out (by kernel_rfl)) ?_
  try go_wp2
  go_ret
  exact ⟨by first | rfl | (simp [errW_none, errW_some] <;> rfl) | (simp [*, errW_none, errW_some] <;> rfl), HB_⟩
/-! ### warrantorlaw09_ZoneOne: function 4 -/

/-- THE ONE PURE STATEMENT of warrantorlaw09_ZoneOne: yours. -/
def warrantorlaw09_ZoneOne.Pure : Prop := ∀ (a0_0 : Int) (l0_1 : List Int) (a1 : Int) (a2 : Int) (a3 : Int), (Lit.int .i64 a0_0).wf = true → l0_1.length ≤ maxLen → l0_1.length * 8 ≤ 140737488351232 → (∀ x ∈ l0_1, (Lit.int .i64 x).wf = true) → (Lit.int .i64 a1).wf = true → (Lit.int .i64 a2).wf = true → (Lit.int .i64 a3).wf = true → ∃ k, warrantorlaw09_ZoneOne_v0.f k a0_0 l0_1 a1 a2 a3 = some true ∨ warrantorlaw09_ZoneOne_v1.f k a0_0 l0_1 a1 a2 a3 = some true ∨ warrantorlaw09_ZoneOne_v2.f k a0_0 l0_1 a1 a2 a3 = some true ∨ warrantorlaw09_ZoneOne_v3.f k a0_0 l0_1 a1 a2 a3 = some true ∨ warrantorlaw09_ZoneOne_v4.f k a0_0 l0_1 a1 a2 a3 = some true
theorem warrantorlaw09_ZoneOne.walk (P : warrantorlaw09_ZoneOne.Pure) (a0_0 : Int) (a0_1 : Option Addr) (len0_1 cap0_1 : Nat) (z0_1 : List Int) (a1 : Int) (a2 : Int) (a3 : Int) (w : World) (w0_0 : (Lit.int .i64 a0_0).wf = true) (w0_1 : (a0_1 = none ∧ len0_1 = 0 ∧ cap0_1 = 0 ∧ z0_1 = []) ∨ ∃ x, a0_1 = some x ∧ len0_1 ≤ cap0_1 ∧ cap0_1 ≤ maxLen ∧ z0_1.length = cap0_1 ∧ (∀ i, i < z0_1.length → w.cell? (x.add i) = some (.int .i64 (z0_1.getD i 0))) ∧ ∀ n ∈ z0_1, (Lit.int .i64 n).wf = true) (y0_1 : len0_1 * 8 ≤ 140737488351232) (w1 : (Lit.int .i64 a1).wf = true) (w2 : (Lit.int .i64 a2).wf = true) (w3 : (Lit.int .i64 a3).wf = true) :
    Calls Try.prog 4 #[.agg #[.int .i64 a0_0, .slice a0_1 len0_1 cap0_1], .int .i64 a1, .int .i64 a2, .int .i64 a3] w fun e w' => e = .returned (.bool true) ∧ Below w.heap.size w w' := by
  obtain ⟨l0_1, rfl, hr0_1, hm0_1, hw0_1, hc0_1⟩ := ReadsInt.ofRowC w0_1
  obtain ⟨k, h⟩ := P a0_0 l0_1 a1 a2 a3 w0_0 hm0_1 y0_1 hw0_1 w1 w2 w3
  rcases h with h | h | h | h | h
  · refine (warrantorlaw09_ZoneOne_v0.calls k a0_0 _ _ l0_1 a1 a2 a3 true w (Kd.C_of_reads (d := (0 : Int)) (h1 := fun _ => rfl) hr0_1) hc0_1 h).mono ?_
    rintro e w' ⟨rfl, hd⟩
    exact ⟨rfl, hd⟩
  · refine (warrantorlaw09_ZoneOne_v1.calls k a0_0 _ _ l0_1 a1 a2 a3 true w (Kd.C_of_reads (d := (0 : Int)) (h1 := fun _ => rfl) hr0_1) hc0_1 h).mono ?_
    rintro e w' ⟨rfl, hd⟩
    exact ⟨rfl, hd⟩
  · refine (warrantorlaw09_ZoneOne_v2.calls k a0_0 _ _ l0_1 a1 a2 a3 true w (Kd.C_of_reads (d := (0 : Int)) (h1 := fun _ => rfl) hr0_1) hc0_1 h).mono ?_
    rintro e w' ⟨rfl, hd⟩
    exact ⟨rfl, hd⟩
  · refine (warrantorlaw09_ZoneOne_v3.calls k a0_0 _ _ l0_1 a1 a2 a3 true w (Kd.C_of_reads (d := (0 : Int)) (h1 := fun _ => rfl) hr0_1) hc0_1 h).mono ?_
    rintro e w' ⟨rfl, hd⟩
    exact ⟨rfl, hd⟩
  · refine (warrantorlaw09_ZoneOne_v4.calls k a0_0 _ _ l0_1 a1 a2 a3 true w (Kd.C_of_reads (d := (0 : Int)) (h1 := fun _ => rfl) hr0_1) hc0_1 h).mono ?_
    rintro e w' ⟨rfl, hd⟩
    exact ⟨rfl, hd⟩
/-! ### warrantorref06_Is: function 43 -/
def warrantorref06_Is.f (a0 : Int) : Option (Bool) := if a0 ≥ (-1099511627776) then (some (decide (a0 ≤ 1099511627776))) else (some false)
set_option maxHeartbeats 8000000 in
set_option maxRecDepth 100000 in
theorem warrantorref06_Is.calls (a0 : Int) (r : Bool) (w : World) (h : warrantorref06_Is.f a0 = some r) :
    Calls Try.prog 43 #[.int .i64 a0] w fun e w' => e = .returned (.bool r) ∧ Drawn0 w w' := by
  have H : (if a0 ≥ (-1099511627776) then (some (decide (a0 ≤ 1099511627776))) else (some false)) = some r := h
  clear h
  by_cases c2 : a0 ≥ (-1099511627776)
  · rw [if_pos c2] at H
    have c2b0 : decide ((-1099511627776) ≤ a0) = true := decide_eq_true c2
    clear c2
    obtain rfl := Option.some.inj H
    go_enter Try.func43, Try.ntmps43
    go_wp2
    go_ret
    exact ⟨by first | rfl | (simp; done) | (simp [*]; done), by repeat (first | exact Drawn0.refl _ | apply Drawn0.step)⟩
  rw [if_neg c2] at H
  have c2b0 : decide ((-1099511627776) ≤ a0) = false := decide_eq_false c2
  clear c2
  obtain rfl := Option.some.inj H
  go_enter Try.func43, Try.ntmps43
  go_wp2
  go_ret
  exact ⟨by first | rfl | (simp; done) | (simp [*]; done), by repeat (first | exact Drawn0.refl _ | apply Drawn0.step)⟩

/-! ### warrantorlaw09_value: function 44 -/
def warrantorlaw09_value.f (l0 : List Int) (a1 : Int) : Option (Int) := if a1 = 0 then (some 0) else (if 0 ≤ (wrap64 (a1 - 1)) then (if (wrap64 (a1 - 1)) < (l0.length : Int) then (some (rd l0 (wrap64 (a1 - 1)))) else (none)) else (none))
set_option maxHeartbeats 8000000 in
set_option maxRecDepth 100000 in
theorem warrantorlaw09_value.calls (A0 : Option Addr) (c0 : Nat) (l0 : List Int) (a1 : Int) (r : Int) (w : World) (hr0 : Kd.C (Kd.int .i64) w A0 l0.length l0) (hc0 : l0.length ≤ c0) (h : warrantorlaw09_value.f l0 a1 = some r) :
    Calls Try.prog 44 #[.slice A0 l0.length c0, .int .i64 a1] w fun e w' => e = .returned (.int .i64 r) ∧ Drawn0 w w' := by
  have HR0 := Aside0.mk hr0
  have HC0 := Aside0.mk hc0
  clear hr0 hc0
  have H : (if a1 = 0 then (some 0) else (if 0 ≤ (wrap64 (a1 - 1)) then (if (wrap64 (a1 - 1)) < (l0.length : Int) then (some (rd l0 (wrap64 (a1 - 1)))) else (none)) else (none))) = some r := h
  clear h
  by_cases c3 : a1 = 0
  · rw [if_pos c3] at H
    have c3b0 : (a1 == 0) = true := beq_iff_eq.mpr c3
    have c3b1 : (a1 != 0) = false := bne_eq_false_iff_eq.mpr c3
    clear c3
    obtain rfl := Option.some.inj H
    go_enter Try.func44, Try.ntmps44
    go_wp2
    go_ret
    exact ⟨by first | rfl | (simp; done) | (simp [*]; done), by repeat (first | exact Drawn0.refl _ | apply Drawn0.step)⟩
  rw [if_neg c3] at H
  have c3b0 : (a1 == 0) = false := beq_eq_false_iff_ne.mpr c3
  have c3b1 : (a1 != 0) = true := bne_iff_ne.mpr c3
  obtain ⟨ji4, hji4⟩ : ∃ j_ : Int, (wrap64 (a1 - 1)) = j_ := ⟨_, rfl⟩
  replace H : (if 0 ≤ (ji4) then (if (ji4) < (l0.length : Int) then (some (rd l0 (ji4))) else (none)) else (none)) = some r := by first | (rw [hji4] at H; exact H) | (simp only [hji4] at H ⊢; exact H)
  have hji4w : (IntKind.i64.wrap (a1 - 1)) = ji4 := (i64_w _).trans hji4
  replace H := yes_ H
  obtain ⟨c5, H⟩ := H
  have c5b0 : decide (0 ≤ (ji4)) = true := decide_eq_true c5
  clear c5
  replace H := yes_ H
  obtain ⟨c6, H⟩ := H
  have c6b0 : decide ((ji4) < (l0.length : Int)) = true := decide_eq_true c6
  clear c6
  obtain rfl := Option.some.inj H
  have p742 : 0 ≤ ((ji4) : Int) := of_decide_eq_true (by first | (with_reducible assumption) | assumption)
  have q742 : (ji4) < (l0.length : Int) := of_decide_eq_true (by first | (with_reducible assumption) | assumption)
  obtain ⟨ad742, e742, hx742_0⟩ := Kd.at_int HR0.out (ji4) p742 q742
  cases e742
  replace p742 := eq_true p742
  replace q742 := eq_true q742
  go_enter Try.func44, Try.ntmps44
  go_wp2
  go_ret
  exact ⟨by first | rfl | (simp; done) | (simp only [← hji4] <;> (first | rfl | simp)) | (simp [*]; done), by repeat (first | exact Drawn0.refl _ | apply Drawn0.step)⟩
-- NOT PRINTED: function 105 (slices_overlaps_int)

end Go.Proofs.Ytgeemdpflcefkaa.Z

import Derived.Test.YtgeemdpflcefkaaYx0
import Derived.Test.YtgeemdpflcefkaaYx29
import Derived.Test.YtgeemdpflcefkaaYx30
namespace Go.Proofs.Ytgeemdpflcefkaa.Y
open Go.RowKit Go.Proofs.YtgeemdpflcefkaaW.PrintWords Go.Proofs.YtgeemdpflcefkaaW.PrintLast Go.Proofs.YtgeemdpflcefkaaW.PrintMore
attribute [local go_sem] max2_int min2_int max_two min_two max_three min_three max_four min_four   -- for this text's walks alone
set_option linter.unusedVariables false
set_option linter.unusedSimpArgs false
def warrantorref08_Vars.f (a0 : Int) : Option (Bool) := if a0 ≥ 0 then (some (decide (a0 ≤ 8))) else (some false)
set_option maxHeartbeats 8000000 in
set_option maxRecDepth 100000 in
theorem warrantorref08_Vars.calls (a0 : Int) (r : Bool) (w : World) (h : warrantorref08_Vars.f a0 = some r) :
   Calls Try.prog 75 #[.int .i64 a0] w fun e w' => e = .returned (.bool r) ∧ Drawn0 w w' := by
 have H : (if a0 ≥ 0 then (some (decide (a0 ≤ 8))) else (some false)) = some r := h
 clear h
 by_cases c2 : a0 ≥ 0
 · rw [if_pos c2] at H
   have c2b0 : decide (0 ≤ a0) = true := decide_eq_true c2
   clear c2
   obtain rfl := Option.some.inj H
   go_enter Try.func75, Try.ntmps75
   go_wp2
   go_ret
   exact ⟨by first | rfl | (simp; done) | (simp [*]; done), by repeat (first | exact Drawn0.refl _ | apply Drawn0.step)⟩
 rw [if_neg c2] at H
 have c2b0 : decide (0 ≤ a0) = false := decide_eq_false c2
 clear c2
 obtain rfl := Option.some.inj H
 go_enter Try.func75, Try.ntmps75
 go_wp2
 go_ret
 exact ⟨by first | rfl | (simp; done) | (simp [*]; done), by repeat (first | exact Drawn0.refl _ | apply Drawn0.step)⟩
def warrantorref08_Check.f (k : Nat) (a0_0 : Int) (l0_1 : List Int) : Option (Bool) := (warrantorref08_Vars.f a0_0).bind fun t477 => (if t477 = true then (if (l0_1.length : Int) = 0 then (some true) else (if (l0_1.length : Int) = (wrap64 ((wrap64 (a0_0 + 1)) * (wrap64 (a0_0 + 1)))) then ((warrantorref08_Close.f k a0_0 l0_1).bind fun bt478 => ((warrantorref08_Same.f k bt478.1 bt478.2 a0_0 l0_1).bind fun t482 => (some t482))) else (some false))) else (some false))
def warrantorref08_Check.T3 : Bool × List (List Nat × List Nat) := (true, [([], []), ([0], [0]), ([1], [1]), ([2], [2]), ([3], [3]), ([4], [4]), ([5, 4], [4, 5]), ([6, 4], [4, 6]), ([4], [4]), ([8, 4], [4, 8]), ([9, 4], [4, 9]), ([4], [4]), ([11, 4], [4, 11]), ([12, 4], [4, 12]), ([10, 13, 4], [4, 10, 13]), ([7, 14, 4], [4, 7, 14]), ([15, 4, 4], [4, 15]), ([16], [16]), ([17, 16], [16, 17]), ([16], [16]), ([19, 16], [16, 19]), ([18, 20, 16, 16], [16, 18, 20]), ([16], [16]), ([21, 22, 21, 16], [16, 21, 22]), ([16, 23, 4], [4, 16, 23]), ([4, 24], [4, 24]), ([25, 23, 0, 1, 2, 3, 4, 5, 6, 7, 8, 9, 10, 11, 12, 13, 14, 15, 16, 17, 18, 19, 20, 21, 22, 23, 24, 25], [25])])
def warrantorref08_Check.B3 : List Nat := [0, 1, 3, 7, 15, 31, 63, 127, 31, 287, 799, 31, 2079, 6175, 16159, 32767, 65535, 131071, 262143, 131071, 655359, 2097151, 131071, 8388607, 16777215, 33554431, 67108863]
theorem warrantorref08_Check.tab3 : rtab .any (opsOf Try.f27 3) = warrantorref08_Check.T3 := by kernel_rfl
theorem warrantorref08_Check.bits3 : waitsOk warrantorref08_Check.T3.2 warrantorref08_Check.B3 = true := by kernel_rfl
set_option maxHeartbeats 8000000 in
set_option maxRecDepth 100000 in
theorem warrantorref08_Check.calls (k : Nat) (a0_0 : Int) (A0_1 : Option Addr) (c0_1 : Nat) (l0_1 : List Int) (r : Bool) (w : World) (hr0_1 : Kd.C (Kd.int .i64) w A0_1 l0_1.length l0_1) (hc0_1 : l0_1.length ≤ c0_1) (h : warrantorref08_Check.f k a0_0 l0_1 = some r) :
   Calls Try.prog 27 #[.agg #[.int .i64 a0_0, .slice A0_1 l0_1.length c0_1]] w fun e w' => e = .returned (.bool r) ∧ Below w.heap.size w w' := by
 have hu24 := Try.underlying24
 have HR0_1 := Aside0.mk hr0_1
 have HC0_1 := Aside0.mk hc0_1
 clear hr0_1 hc0_1
 have HB := Aside0.mk (Below.refl w.heap.size w)
 have H : ((warrantorref08_Vars.f a0_0).bind fun t477 => (if t477 = true then (if (l0_1.length : Int) = 0 then (some true) else (if (l0_1.length : Int) = (wrap64 ((wrap64 (a0_0 + 1)) * (wrap64 (a0_0 + 1)))) then ((warrantorref08_Close.f k a0_0 l0_1).bind fun bt478 => ((warrantorref08_Same.f k bt478.1 bt478.2 a0_0 l0_1).bind fun t482 => (some t482))) else (some false))) else (some false))) = some r := h
 clear h
 replace H := bd_ H
 obtain ⟨t477, A2, H⟩ := H
 (try dsimp only at H)
 by_cases c3 : t477 = true
 rotate_left
 · replace c3 := Bool.eq_false_iff.mpr c3
   subst c3
   replace H := ng1_ H
   obtain rfl := Option.some.inj H
   go_enter Try.func27, Try.ntmps27
   go_wp2_with (first | ((with_reducible refine gate_dst (N := 1) rfl ?_); (try (refine gate_guard (by rfl) ?_; dsimp only)); refine bx_ (N := 1) (cs := #[.int .i64 a0_0, .slice A0_1 l0_1.length c0_1]) (t := 24) ?_; intro gb476 hg w20 hbox hb; have n_ := a_ (bs_ HB hb) (a_ (Aside0.mk hbox) (a_ (gs_ HB hg) (gs_ HB hg))); clear HB; obtain ⟨HB, BK476, GW476, GE476⟩ := n_; clear hb hbox hg; obtain ⟨hcz21_0, hcz21_1, hfz21_0, hfz21_1⟩ := cz2_ BK476) | ((with_reducible refine gate_callee (f := 75) rfl ?_); refine goesL_ (some 5) rfl rfl Try.func75 (by kernel_rfl) rfl #[.int .i64 a0_0] rfl MP_ ?_; (with_reducible refine (warrantorref08_Vars.calls a0_0 false _ A2.out).mono ?_); rintro e w' ⟨rfl, ⟨nd, rfl⟩⟩; refine ⟨_, rfl, ?_⟩))
   go_ret
   exact ⟨by first | rfl | (simp [errW_none, errW_some] <;> rfl) | (simp [*, errW_none, errW_some] <;> rfl), HB_⟩
 subst c3
 replace H := ps1_ H
 by_cases c4 : (l0_1.length : Int) = 0
 · rw [if_pos c4] at H
   have c4b0 : ((l0_1.length : Int) == 0) = true := beq_iff_eq.mpr c4
   have c4b1 : ((l0_1.length : Int) != 0) = false := bne_eq_false_iff_eq.mpr c4
   clear c4
   obtain rfl := Option.some.inj H
   go_enter Try.func27, Try.ntmps27
   try go_wp2_with (first | ((with_reducible refine gate_dst (N := 1) rfl ?_); (try (refine gate_guard (by rfl) ?_; dsimp only)); refine bx_ (N := 1) (cs := #[.int .i64 a0_0, .slice A0_1 l0_1.length c0_1]) (t := 24) ?_; intro gb476 hg w5 hbox hb; have n_ := a_ (bs_ HB hb) (a_ (Aside0.mk hbox) (a_ (gs_ HB hg) (gs_ HB hg))); clear HB; obtain ⟨HB, BK476, GW476, GE476⟩ := n_; clear hb hbox hg; obtain ⟨hcz6_0, hcz6_1, hfz6_0, hfz6_1⟩ := cz2_ BK476) | ((with_reducible refine gate_callee (f := 75) rfl ?_); refine goesL_ (some 5) rfl rfl Try.func75 (by kernel_rfl) rfl #[.int .i64 a0_0] rfl MP_ ?_; (with_reducible refine (warrantorref08_Vars.calls a0_0 true _ A2.out).mono ?_); rintro e w' ⟨rfl, ⟨nd, rfl⟩⟩; refine ⟨_, rfl, ?_⟩))
   (try (rw [drewN_self w5]; generalize hq_ : World.drewN w5 _ = w5; have n0_ : Aside0 (w5.heap[gb476]? = some (.cells #[.int .i64 a0_0, .slice A0_1 l0_1.length c0_1] 24 (0, 0))) := ⟨by rw [← hq_]; exact (bk_ BK476.out)⟩; have n1_ : Aside0 (Below w.heap.size w w5) := ⟨by rw [← hq_]; exact HB_⟩; clear BK476 HB hq_; have BK476 := n0_; have HB := n1_; clear n0_ n1_; (try (obtain ⟨hczu_gb476_0, hczu_gb476_1, hfzu_gb476_0, hfzu_gb476_1⟩ := cz2_ BK476))))
   first | (obtain ⟨w5, hq_⟩ : ∃ x, x = w5.drewN nd := ⟨_, rfl⟩; rw [← hq_]; have q0_ := Aside0.mk (blk_drewN BK476.out nd); rw [← hq_] at q0_; have q1_ := Aside0.mk (pw_below_drewN HB.out nd); rw [← hq_] at q1_; clear BK476; clear HB; have BK476 := q0_; have HB := q1_; clear hq_ q0_ q1_) | skip
   have n_ := a_ (Aside0.mk (blk_drew BK476.out)) (Aside0.mk (below_drew1 HB.out))
   clear BK476 HB
   obtain ⟨BK476, HB⟩ := n_
   refine start_ (n := 27) (S := fun w' => w'.cell? ⟨gb476, 0, none⟩ = some (.int .i64 a0_0) ∧ w'.cell? ⟨gb476, 1, none⟩ = some (.slice A0_1 l0_1.length c0_1)) (ds := []) #[false, false, false, false, false, false, false, false, false, false, false, false, false, false, false, false, false, false, false, false, false, false, false, false, false, false, false] (by kernel_rfl) rfl rfl ⟨(blk_cell BK476.out 0).trans rfl, (blk_cell BK476.out 1).trans rfl⟩ (fun hHeld => ?_); refine with_tabW warrantorref08_Check.tab3 warrantorref08_Check.bits3 (fun HT_ HW_ => ?_)
   generalize w5.drew = w7 at BK476 HB hHeld ⊢
   refine pu_ 0 (some 7) ?_
   refine take_ (i := 1) (N := some 8) (v := ?_) (a' := ?_) #[true, true, false, false, false, false, false, false, false, false, false, false, false, false, false, false, false, false, false, false, false, false, false, false, false, false, false] rfl rfl (take_ofW HT_.out HW_.out (by kernel_rfl)) (fun _ _ _ h => h) (Or.inl ⟨by rfl, ?_⟩) hHeld ?_ ?_
   rotate_left
   · rintro w' ⟨s0, s1⟩
     go_simp
     with_reducible rfl
   rotate_left
   · exact AP_
   refine pu_ 2 (some 9) ?_
   refine pu_ 3 (some 10) ?_
   refine pu_ 4 (some 11) ?_
   refine pv_ 5 (some 12) ?_
   refine pv_ 6 (some 13) ?_
   refine pv_ 7 (some 14) ?_
   refine pv_ 8 (some 15) ?_
   refine pv_ 9 (some 16) ?_
   refine pv_ 10 (some 17) ?_
   refine pv_ 11 (some 18) ?_
   refine pv_ 12 (some 19) ?_
   refine pv_ 13 (some 20) ?_
   refine pv_ 14 (some 21) ?_
   refine pv_ 15 (some 22) ?_
   refine pv_ 16 (some 23) ?_
   refine pv_ 17 (some 24) ?_
   refine pv_ 18 (some 25) ?_
   refine pv_ 19 (some 26) ?_
   refine pv_ 20 (some 27) ?_
   refine pv_ 21 (some 28) ?_
   refine pv_ 22 (some 29) ?_
   refine pv_ 23 (some 30) ?_
   refine pv_ 24 (some 31) ?_
   refine pu_ 25 (some 32) ?_
   refine pu_ 26 (some 2) ?_
   refine done_ (done_of HT_.out (by kernel_rfl)) ?_
   try go_wp2
   go_ret
   exact ⟨by first | rfl | (simp [errW_none, errW_some] <;> rfl) | (simp [*, errW_none, errW_some] <;> rfl), HB_⟩
 rw [if_neg c4] at H
 have c4b0 : ((l0_1.length : Int) == 0) = false := beq_eq_false_iff_ne.mpr c4
 have c4b1 : ((l0_1.length : Int) != 0) = true := bne_iff_ne.mpr c4
 have c4b2 : ¬ (l0_1 = []) := fun h_ => c4 (by rw [h_]; rfl)
 by_cases c8 : (l0_1.length : Int) = (wrap64 ((wrap64 (a0_0 + 1)) * (wrap64 (a0_0 + 1))))
 rotate_left
 · rw [if_neg c8] at H
   have c8b0 : ((l0_1.length : Int) == (wrap64 ((wrap64 (a0_0 + 1)) * (wrap64 (a0_0 + 1))))) = false := beq_eq_false_iff_ne.mpr c8
   have c8b0v : ((l0_1.length : Int) == (IntKind.i64.wrap ((IntKind.i64.wrap (a0_0 + 1)) * (IntKind.i64.wrap (a0_0 + 1))))) = false := by (try simp only [i64_w]); exact c8b0
   have c8b1 : ((l0_1.length : Int) != (wrap64 ((wrap64 (a0_0 + 1)) * (wrap64 (a0_0 + 1))))) = true := bne_iff_ne.mpr c8
   have c8b1v : ((l0_1.length : Int) != (IntKind.i64.wrap ((IntKind.i64.wrap (a0_0 + 1)) * (IntKind.i64.wrap (a0_0 + 1))))) = true := by (try simp only [i64_w]); exact c8b1
   obtain rfl := Option.some.inj H
   go_enter Try.func27, Try.ntmps27
   try go_wp2_with (first | ((with_reducible refine gate_dst (N := 1) rfl ?_); (try (refine gate_guard (by rfl) ?_; dsimp only)); refine bx_ (N := 1) (cs := #[.int .i64 a0_0, .slice A0_1 l0_1.length c0_1]) (t := 24) ?_; intro gb476 hg w17 hbox hb; have n_ := a_ (bs_ HB hb) (a_ (Aside0.mk hbox) (a_ (gs_ HB hg) (gs_ HB hg))); clear HB; obtain ⟨HB, BK476, GW476, GE476⟩ := n_; clear hb hbox hg; obtain ⟨hcz18_0, hcz18_1, hfz18_0, hfz18_1⟩ := cz2_ BK476) | ((with_reducible refine gate_callee (f := 75) rfl ?_); refine goesL_ (some 5) rfl rfl Try.func75 (by kernel_rfl) rfl #[.int .i64 a0_0] rfl MP_ ?_; (with_reducible refine (warrantorref08_Vars.calls a0_0 true _ A2.out).mono ?_); rintro e w' ⟨rfl, ⟨nd, rfl⟩⟩; refine ⟨_, rfl, ?_⟩))
   (try (rw [drewN_self w17]; generalize hq_ : World.drewN w17 _ = w17; have n0_ : Aside0 (w17.heap[gb476]? = some (.cells #[.int .i64 a0_0, .slice A0_1 l0_1.length c0_1] 24 (0, 0))) := ⟨by rw [← hq_]; exact (bk_ BK476.out)⟩; have n1_ : Aside0 (Below w.heap.size w w17) := ⟨by rw [← hq_]; exact HB_⟩; clear BK476 HB hq_; have BK476 := n0_; have HB := n1_; clear n0_ n1_; (try (obtain ⟨hczu_gb476_0, hczu_gb476_1, hfzu_gb476_0, hfzu_gb476_1⟩ := cz2_ BK476))))
   first | (obtain ⟨w17, hq_⟩ : ∃ x, x = w17.drewN nd := ⟨_, rfl⟩; rw [← hq_]; have q0_ := Aside0.mk (blk_drewN BK476.out nd); rw [← hq_] at q0_; have q1_ := Aside0.mk (pw_below_drewN HB.out nd); rw [← hq_] at q1_; clear BK476; clear HB; have BK476 := q0_; have HB := q1_; clear hq_ q0_ q1_) | skip
   have n_ := a_ (Aside0.mk (blk_drew BK476.out)) (Aside0.mk (below_drew1 HB.out))
   clear BK476 HB
   obtain ⟨BK476, HB⟩ := n_
   refine start_ (n := 27) (S := fun w' => w'.cell? ⟨gb476, 0, none⟩ = some (.int .i64 a0_0) ∧ w'.cell? ⟨gb476, 1, none⟩ = some (.slice A0_1 l0_1.length c0_1)) (ds := []) #[false, false, false, false, false, false, false, false, false, false, false, false, false, false, false, false, false, false, false, false, false, false, false, false, false, false, false] (by kernel_rfl) rfl rfl ⟨(blk_cell BK476.out 0).trans rfl, (blk_cell BK476.out 1).trans rfl⟩ (fun hHeld => ?_); refine with_tabW warrantorref08_Check.tab3 warrantorref08_Check.bits3 (fun HT_ HW_ => ?_)
   generalize w17.drew = w19 at BK476 HB hHeld ⊢
   refine pu_ 0 (some 7) ?_
   refine take_ (i := 1) (N := some 8) (v := ?_) (a' := ?_) #[true, true, false, false, false, false, false, false, false, false, false, false, false, false, false, false, false, false, false, false, false, false, false, false, false, false, false] rfl rfl (take_ofW HT_.out HW_.out (by kernel_rfl)) (fun _ _ _ h => h) (Or.inl ⟨by rfl, ?_⟩) hHeld ?_ ?_
   rotate_left
   · rintro w' ⟨s0, s1⟩
     go_simp
     with_reducible rfl
   rotate_left
   · exact AP_
   refine pu_ 2 (some 9) ?_
   refine pu_ 3 (some 10) ?_
   refine pu_ 4 (some 11) ?_
   refine pu_ 5 (some 12) ?_
   refine pu_ 8 (some 15) ?_
   refine pu_ 11 (some 18) ?_
   refine take_ (i := 6) (N := some 13) (v := ?_) (a' := ?_) #[true, true, true, true, true, true, true, false, true, false, false, true, false, false, false, false, false, false, false, false, false, false, false, false, false, false, false] rfl rfl (take_ofW HT_.out HW_.out (by kernel_rfl)) (fun _ _ _ h => h) (Or.inl ⟨by rfl, ?_⟩) hHeld ?_ ?_
   rotate_left
   · rintro w' ⟨s0, s1⟩
     go_simp
     with_reducible rfl
   rotate_left
   · exact AP_
   refine pu_ 7 (some 14) ?_
   refine take_ (i := 9) (N := some 16) (v := ?_) (a' := ?_) #[true, true, true, true, true, true, true, true, true, true, false, true, false, false, false, false, false, false, false, false, false, false, false, false, false, false, false] rfl rfl (take_ofW HT_.out HW_.out (by kernel_rfl)) (fun _ _ _ h => h) (Or.inl ⟨by rfl, ?_⟩) hHeld ?_ ?_
   rotate_left
   · rintro w' ⟨s0, s1⟩
     go_simp
     with_reducible rfl
   rotate_left
   · exact AP_
   refine pu_ 10 (some 17) ?_
   refine take_ (i := 12) (N := some 19) (v := ?_) (a' := ?_) #[true, true, true, true, true, true, true, true, true, true, true, true, true, false, false, false, false, false, false, false, false, false, false, false, false, false, false] rfl rfl (take_ofW HT_.out HW_.out (by kernel_rfl)) (fun _ _ _ h => h) (Or.inl ⟨by rfl, ?_⟩) hHeld ?_ ?_
   rotate_left
   · rintro w' ⟨s0, s1⟩
     go_simp
     with_reducible rfl
   rotate_left
   · exact AP_
   refine pu_ 13 (some 20) ?_
   refine pu_ 14 (some 21) ?_
   refine pu_ 15 (some 22) ?_
   refine pu_ 16 (some 23) ?_
   refine pv_ 17 (some 24) ?_
   refine pv_ 18 (some 25) ?_
   refine pv_ 19 (some 26) ?_
   refine pv_ 20 (some 27) ?_
   refine pv_ 21 (some 28) ?_
   refine pv_ 22 (some 29) ?_
   refine pv_ 23 (some 30) ?_
   refine pu_ 24 (some 31) ?_
   refine pu_ 25 (some 32) ?_
   refine pu_ 26 (some 2) ?_
   refine done_ (done_of HT_.out (by kernel_rfl)) ?_
   try go_wp2
   go_ret
   exact ⟨by first | rfl | (simp [errW_none, errW_some] <;> rfl) | (simp [*, errW_none, errW_some] <;> rfl), HB_⟩
 rw [if_pos c8] at H
 have c8b0 : ((l0_1.length : Int) == (wrap64 ((wrap64 (a0_0 + 1)) * (wrap64 (a0_0 + 1))))) = true := beq_iff_eq.mpr c8
 have c8b0v : ((l0_1.length : Int) == (IntKind.i64.wrap ((IntKind.i64.wrap (a0_0 + 1)) * (IntKind.i64.wrap (a0_0 + 1))))) = true := by (try simp only [i64_w]); exact c8b0
 have c8b1 : ((l0_1.length : Int) != (wrap64 ((wrap64 (a0_0 + 1)) * (wrap64 (a0_0 + 1))))) = false := bne_eq_false_iff_eq.mpr c8
 have c8b1v : ((l0_1.length : Int) != (IntKind.i64.wrap ((IntKind.i64.wrap (a0_0 + 1)) * (IntKind.i64.wrap (a0_0 + 1))))) = false := by (try simp only [i64_w]); exact c8b1
 clear c8
 replace H := bd_ H
 obtain ⟨⟨t478, t479⟩, A9, H⟩ := H
 (try dsimp only at H)
 replace H := bd_ H
 obtain ⟨t482, A10, H⟩ := H
 (try dsimp only at H)
 obtain rfl := Option.some.inj H
 go_enter Try.func27, Try.ntmps27
 try go_wp2_with (first | ((with_reducible refine gate_dst (N := 1) rfl ?_); (try (refine gate_guard (by rfl) ?_; dsimp only)); refine bx_ (N := 1) (cs := #[.int .i64 a0_0, .slice A0_1 l0_1.length c0_1]) (t := 24) ?_; intro gb476 hg w11 hbox hb; have n_ := a_ (bs_ HB hb) (a_ (Aside0.mk hbox) (a_ (gs_ HB hg) (gs_ HB hg))); clear HB; obtain ⟨HB, BK476, GW476, GE476⟩ := n_; clear hb hbox hg; obtain ⟨hcz12_0, hcz12_1, hfz12_0, hfz12_1⟩ := cz2_ BK476) | ((with_reducible refine gate_callee (f := 75) rfl ?_); refine goesL_ (some 5) rfl rfl Try.func75 (by kernel_rfl) rfl #[.int .i64 a0_0] rfl MP_ ?_; (with_reducible refine (warrantorref08_Vars.calls a0_0 true _ A2.out).mono ?_); rintro e w' ⟨rfl, ⟨nd, rfl⟩⟩; refine ⟨_, rfl, ?_⟩))
 (try (rw [drewN_self w11]; generalize hq_ : World.drewN w11 _ = w11; have n0_ : Aside0 (w11.heap[gb476]? = some (.cells #[.int .i64 a0_0, .slice A0_1 l0_1.length c0_1] 24 (0, 0))) := ⟨by rw [← hq_]; exact (bk_ BK476.out)⟩; have n1_ : Aside0 (Below w.heap.size w w11) := ⟨by rw [← hq_]; exact HB_⟩; clear BK476 HB hq_; have BK476 := n0_; have HB := n1_; clear n0_ n1_; (try (obtain ⟨hczu_gb476_0, hczu_gb476_1, hfzu_gb476_0, hfzu_gb476_1⟩ := cz2_ BK476))))
 first | (obtain ⟨w11, hq_⟩ : ∃ x, x = w11.drewN nd := ⟨_, rfl⟩; rw [← hq_]; have q0_ := Aside0.mk (blk_drewN BK476.out nd); rw [← hq_] at q0_; have q1_ := Aside0.mk (pw_below_drewN HB.out nd); rw [← hq_] at q1_; clear BK476; clear HB; have BK476 := q0_; have HB := q1_; clear hq_ q0_ q1_) | skip
 have n_ := a_ (Aside0.mk (blk_drew BK476.out)) (Aside0.mk (below_drew1 HB.out))
 clear BK476 HB
 obtain ⟨BK476, HB⟩ := n_
 refine start_ (n := 27) (S := fun w' => w'.cell? ⟨gb476, 0, none⟩ = some (.int .i64 a0_0) ∧ w'.cell? ⟨gb476, 1, none⟩ = some (.slice A0_1 l0_1.length c0_1)) (ds := []) #[false, false, false, false, false, false, false, false, false, false, false, false, false, false, false, false, false, false, false, false, false, false, false, false, false, false, false] (by kernel_rfl) rfl rfl ⟨(blk_cell BK476.out 0).trans rfl, (blk_cell BK476.out 1).trans rfl⟩ (fun hHeld => ?_); refine with_tabW warrantorref08_Check.tab3 warrantorref08_Check.bits3 (fun HT_ HW_ => ?_)
 generalize w11.drew = w13 at BK476 HB hHeld ⊢
 refine pu_ 0 (some 7) ?_
 refine take_ (i := 1) (N := some 8) (v := ?_) (a' := ?_) #[true, true, false, false, false, false, false, false, false, false, false, false, false, false, false, false, false, false, false, false, false, false, false, false, false, false, false] rfl rfl (take_ofW HT_.out HW_.out (by kernel_rfl)) (fun _ _ _ h => h) (Or.inl ⟨by rfl, ?_⟩) hHeld ?_ ?_
 rotate_left
 · rintro w' ⟨s0, s1⟩
   go_simp
   with_reducible rfl
 rotate_left
 · exact AP_
 refine pu_ 2 (some 9) ?_
 refine pu_ 3 (some 10) ?_
 refine pu_ 4 (some 11) ?_
 refine pu_ 5 (some 12) ?_
 refine pu_ 8 (some 15) ?_
 refine pu_ 11 (some 18) ?_
 refine take_ (i := 6) (N := some 13) (v := ?_) (a' := ?_) #[true, true, true, true, true, true, true, false, true, false, false, true, false, false, false, false, false, false, false, false, false, false, false, false, false, false, false] rfl rfl (take_ofW HT_.out HW_.out (by kernel_rfl)) (fun _ _ _ h => h) (Or.inl ⟨by rfl, ?_⟩) hHeld ?_ ?_
 rotate_left
 · rintro w' ⟨s0, s1⟩
   go_simp
   with_reducible rfl
 rotate_left
 · exact AP_
 refine pu_ 7 (some 14) ?_
 refine take_ (i := 9) (N := some 16) (v := ?_) (a' := ?_) #[true, true, true, true, true, true, true, true, true, true, false, true, false, false, false, false, false, false, false, false, false, false, false, false, false, false, false] rfl rfl (take_ofW HT_.out HW_.out (by kernel_rfl)) (fun _ _ _ h => h) (Or.inl ⟨by rfl, ?_⟩) hHeld ?_ ?_
 rotate_left
 · rintro w' ⟨s0, s1⟩
   go_simp
   with_reducible rfl
 rotate_left
 · exact AP_
 refine pu_ 10 (some 17) ?_
 refine take_ (i := 12) (N := some 19) (v := ?_) (a' := ?_) #[true, true, true, true, true, true, true, true, true, true, true, true, true, false, false, false, false, false, false, false, false, false, false, false, false, false, false] rfl rfl (take_ofW HT_.out HW_.out (by kernel_rfl)) (fun _ _ _ h => h) (Or.inl ⟨by rfl, ?_⟩) hHeld ?_ ?_
 rotate_left
 · rintro w' ⟨s0, s1⟩
   go_simp
   with_reducible rfl
 rotate_left
 · exact AP_
 refine pu_ 13 (some 20) ?_
 refine pu_ 14 (some 21) ?_
 refine pu_ 15 (some 22) ?_
 refine pu_ 16 (some 23) ?_
 refine pu_ 17 (some 24) ?_
 refine pu_ 19 (some 26) ?_
 refine take_ (i := 18) (N := some 25) (v := ?_) (a' := ?_) #[true, true, true, true, true, true, true, true, true, true, true, true, true, true, true, true, true, true, true, true, false, false, false, false, false, false, false] rfl rfl (take_ofW HT_.out HW_.out (by kernel_rfl)) (fun _ _ _ h => h) (Or.inl ⟨by rfl, ?_⟩) hHeld ?_ ?_
 rotate_left
 · rintro w' ⟨s0, s1⟩
   go_simp
   with_reducible rfl
 rotate_left
 · exact AP_
 refine take_ (i := 20) (N := some 27) (v := ?_) (a' := ?_) #[true, true, true, true, true, true, true, true, true, true, true, true, true, true, true, true, true, true, true, true, true, false, false, false, false, false, false] rfl rfl (take_ofW HT_.out HW_.out (by kernel_rfl)) (fun _ _ _ h => h) (Or.inl ⟨by rfl, ?_⟩) hHeld ?_ ?_
 rotate_left
 · rintro w' ⟨s0, s1⟩
   go_simp
   with_reducible rfl
 rotate_left
 · exact AP_
 refine take_ (i := 22) (N := some 29) (v := ?_) (a' := ?_) #[true, true, true, true, true, true, true, true, true, true, true, true, true, true, true, true, true, true, true, true, true, false, true, false, false, false, false] rfl rfl (take_ofW HT_.out HW_.out (by kernel_rfl)) (fun _ _ _ h => h) (Or.inl ⟨by rfl, ?_⟩) hHeld ?_ ?_
 rotate_left
 · rintro w' ⟨s0, s1⟩
   go_simp
   with_reducible rfl
 rotate_left
 · exact AP_
 refine on_ 21 (some 28) (fun K hK => ?_)
 refine goes_ Try.func76 (by kernel_rfl) rfl #[.int .i64 a0_0, .slice A0_1 l0_1.length c0_1] (by rfl) rfl rfl MP_ ?_
 with_reducible refine (warrantorref08_Close.calls k a0_0 _ _ l0_1 t478 t479 _ ?side1 ?side2 A9.out).mono ?_
 (case side1 => exact sd_ (Kd.C_below HR0_1.out HB.out))
 (case side2 => exact HC0_1.out)
 rintro e w14 ⟨v480, rfl, ho0, hb⟩
 refine ⟨_, rfl, ?_⟩
 have n_ := a_ (Aside0.mk (Kd.R_lower ho0 (below_size HB_))) (a_ (bb_ BK476 hb) (bs_ HB hb))
 clear BK476 HB
 obtain ⟨HO481, BK476, HB⟩ := n_
 (try clear hb)
 (try clear hb2)
 (try clear hk)
 (try clear hi)
 (try clear ho0)
 obtain ⟨Ao15, co15, eo15⟩ := Kd.R_slice HO481.out
 (first | subst eo15 | (injection eo15 with f1_ f2_ f3_; have f4_ := f1_.symm; have f5_ := f3_.symm; clear f1_ f2_ f3_; subst f4_; subst f5_))
 refine hK.out _ _ ⟨(blk_cell BK476.out 0).trans rfl, (blk_cell BK476.out 1).trans rfl⟩ (fun hHeld => ?_)
 clear hK K
 refine nm_ ?_
 refine on_ 23 (some 30) (fun K hK => ?_)
 refine goes_ Try.func17 (by kernel_rfl) rfl #[.agg #[.int .i64 t478, .slice Ao15 t479.length co15], .agg #[.int .i64 a0_0, .slice A0_1 l0_1.length c0_1]] (by rfl) rfl rfl MP_ ?_
 with_reducible refine (warrantorref08_Same.calls k t478 _ _ t479 a0_0 _ _ l0_1 t482 _ ?side1 ?side2 ?side3 ?side4 A10.out).mono ?_
 (case side1 => repeat (first | exact (Kd.R_reads' HO481.out).2.2 | (with_reducible refine Kd.C_alloc ?_ _) | (with_reducible refine Kd.C_drewN ?_ _) | (with_reducible refine Kd.C_drew ?_)))
 (case side2 => exact (Kd.R_reads' HO481.out).2.1)
 (case side3 => exact sd_ (Kd.C_below HR0_1.out HB.out))
 (case side4 => exact HC0_1.out)
 rintro e w16 ⟨rfl, hb⟩
 refine ⟨_, rfl, ?_⟩
 have n_ := a_ (rb_ HO481 hb) (a_ (bb_ BK476 hb) (bs_ HB hb))
 clear HO481 BK476 HB
 obtain ⟨HO481, BK476, HB⟩ := n_
 (try clear hb)
 (try clear hb2)
 (try clear hk)
 (try clear hi)
 refine hK.out _ _ ⟨(blk_cell BK476.out 0).trans rfl, (blk_cell BK476.out 1).trans rfl⟩ (fun hHeld => ?_)
 clear hK K
 refine nm_ ?_
 refine pu_ 24 (some 31) ?_
 refine pu_ 25 (some 32) ?_
 refine pu_ 26 (some 2) ?_
 refine done_ (done_of HT_.out (by kernel_rfl)) ?_
 try go_wp2
 go_ret
 exact ⟨by first | rfl | (simp [errW_none, errW_some] <;> rfl) | (simp [*, errW_none, errW_some] <;> rfl), HB_⟩
def warrantorref06_Is.f (a0 : Int) : Option (Bool) := if a0 ≥ (-1099511627776) then (some (decide (a0 ≤ 1099511627776))) else (some false)
set_option maxHeartbeats 8000000 in
set_option maxRecDepth 100000 in
theorem warrantorref06_Is.calls (a0 : Int) (r : Bool) (w : World) (h : warrantorref06_Is.f a0 = some r) :
   Calls Try.prog 43 #[.int .i64 a0] w fun e w' => e = .returned (.bool r) ∧ Drawn0 w w' := by
 have H : (if a0 ≥ (-1099511627776) then (some (decide (a0 ≤ 1099511627776))) else (some false)) = some r := h
 clear h
 by_cases c2 : a0 ≥ (-1099511627776)
 · rw [if_pos c2] at H
   have c2b0 : decide ((-1099511627776) ≤ a0) = true := decide_eq_true c2
   clear c2
   obtain rfl := Option.some.inj H
   go_enter Try.func43, Try.ntmps43
   go_wp2
   go_ret
   exact ⟨by first | rfl | (simp; done) | (simp [*]; done), by repeat (first | exact Drawn0.refl _ | apply Drawn0.step)⟩
 rw [if_neg c2] at H
 have c2b0 : decide ((-1099511627776) ≤ a0) = false := decide_eq_false c2
 clear c2
 obtain rfl := Option.some.inj H
 go_enter Try.func43, Try.ntmps43
 go_wp2
 go_ret
 exact ⟨by first | rfl | (simp; done) | (simp [*]; done), by repeat (first | exact Drawn0.refl _ | apply Drawn0.step)⟩
end Go.Proofs.Ytgeemdpflcefkaa.Y

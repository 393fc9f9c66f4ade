import Derived.Test.YtgeemdpflcefkaaYx0
import Derived.Test.YtgeemdpflcefkaaYx28
import Derived.Test.YtgeemdpflcefkaaYx29
import Derived.Test.YtgeemdpflcefkaaYx31
namespace Go.Proofs.Ytgeemdpflcefkaa.Y
open Go.RowKit Go.Proofs.YtgeemdpflcefkaaW.PrintWords Go.Proofs.YtgeemdpflcefkaaW.PrintLast Go.Proofs.YtgeemdpflcefkaaW.PrintMore
attribute [local go_sem] max2_int min2_int max_two min_two max_three min_three max_four min_four   -- for this text's walks alone
set_option linter.unusedVariables false
set_option linter.unusedSimpArgs false
def warrantorlaw14_lives.f (k : Nat)  : Option (Bool) := (warrantorref09_Box.f k (([(⟨0, 3⟩ : S39)] : List (S39)))).bind fun bt433 => ((post_Post.f k bt433.1 bt433.2 2 1 1 1 0).bind fun bt438 => ((post_Fault.f k bt433.1 bt433.2 5 1 0 2 0).bind fun bt445 => ((post_Post.f k bt433.1 bt433.2 0 0 0 0 0).bind fun bt451 => (if bt438.2.2 = 0 then ((warrantorref09_Box.f k (([(⟨1, 4⟩ : S39)] : List (S39)))).bind fun bt460 => ((warrantorref08_Same.f k bt438.1 bt438.2.1 bt460.1 bt460.2).bind fun t464 => (if t464 = true then (if bt445.2.2 = 0 then ((warrantorref09_Box.f k (([(⟨3, 3⟩ : S39)] : List (S39)))).bind fun bt468 => ((warrantorref08_Same.f k bt445.1 bt445.2.1 bt468.1 bt468.2).bind fun t472 => (if t472 = true then (if bt451.2.2 = 111 then ((post_May.f k bt433.1 bt433.2 5 1 0 2 0).bind fun t473 => (if t473 = true then ((post_Must.f k bt433.1 bt433.2 5 1 0 2 0).bind fun t474 => (if t474 = true then (none) else ((post_Must.f k bt445.1 bt445.2.1 5 1 0 2 0).bind fun t475 => (some t475)))) else (none))) else (none)) else (none)))) else (none)) else (none)))) else (none)))))
theorem warrantorlaw14_lives.mono : ∀ k, LeO (warrantorlaw14_lives.f k ) (warrantorlaw14_lives.f (k + 1) ) := by
 intro  k
 unfold warrantorlaw14_lives.f
 repeat' first
  | (with_reducible exact post_Fault.mono _ _ _ _ _ _ _ _)
  | (with_reducible exact post_May.mono _ _ _ _ _ _ _ _)
  | (with_reducible exact post_Must.mono _ _ _ _ _ _ _ _)
  | (with_reducible exact post_Post.mono _ _ _ _ _ _ _ _)
  | (with_reducible exact warrantorref08_Same.mono _ _ _ _ _)
  | (with_reducible exact warrantorref09_Box.mono _ _)
  | (with_reducible exact LeO.refl _)
  | (with_reducible exact LeO.none _)
  | (with_reducible refine LeO.ite ?_ ?_)
  | (with_reducible refine LeO.bind ?_ (fun _ => ?_))
  | exact post_Fault.mono _ _ _ _ _ _ _ _
  | exact post_May.mono _ _ _ _ _ _ _ _
  | exact post_Must.mono _ _ _ _ _ _ _ _
  | exact post_Post.mono _ _ _ _ _ _ _ _
  | exact warrantorref08_Same.mono _ _ _ _ _
  | exact warrantorref09_Box.mono _ _
  | exact LeO.none _
  | refine LeO.ite ?_ ?_
  | refine LeO.bind ?_ (fun _ => ?_)
def warrantorlaw14_lives.T6 : Bool × List (List Nat × List Nat) := (true, [([], []), ([0], [0]), ([1], [1]), ([2], [2]), ([2], [2]), ([4, 2], [2, 4]), ([5, 2, 2], [2, 5]), ([3, 6, 6, 2], [2, 3, 6]), ([2, 7], [2, 7]), ([8, 7], [8]), ([9], [9]), ([10, 9], [9, 10]), ([9, 11], [9, 11]), ([12, 9], [12]), ([13], [13]), ([13], [13]), ([15, 13], [13, 15]), ([16, 13, 13], [13, 16]), ([14, 17, 17, 13], [13, 14, 17]), ([13, 18], [13, 18]), ([19, 18], [19]), ([20], [20]), ([21, 20], [20, 21]), ([20, 22], [20, 22]), ([23, 20], [23]), ([24], [24]), ([24], [24]), ([25, 26, 24, 24], [24, 25, 26]), ([24, 27], [24, 27]), ([28, 27], [28]), ([29], [29]), ([29], [29]), ([30, 31, 29, 29], [29, 30, 31]), ([32, 29], [29, 32]), ([29, 33], [29, 33]), ([34, 32], [34]), ([35], [35]), ([35], [35]), ([36, 37, 35, 35], [35, 36, 37]), ([35, 38], [35, 38]), ([39, 38, 0, 1, 2, 3, 4, 5, 6, 7, 8, 9, 10, 11, 12, 13, 14, 15, 16, 17, 18, 19, 20, 21, 22, 23, 24, 25, 26, 27, 28, 29, 30, 31, 32, 33, 34, 35, 36, 37, 38, 39], [39])])
def warrantorlaw14_lives.B6 : List Nat := [0, 1, 3, 7, 7, 23, 55, 127, 255, 511, 1023, 2047, 4095, 8191, 16383, 16383, 49151, 114687, 262143, 524287, 1048575, 2097151, 4194303, 8388607, 16777215, 33554431, 33554431, 134217727, 268435455, 536870911, 1073741823, 1073741823, 4294967295, 8589934591, 17179869183, 34359738367, 68719476735, 68719476735, 274877906943, 549755813887, 1099511627775]
theorem warrantorlaw14_lives.tab6 : rtab .any (opsOf Try.f13 6) = warrantorlaw14_lives.T6 := by kernel_rfl
theorem warrantorlaw14_lives.bits6 : waitsOk warrantorlaw14_lives.T6.2 warrantorlaw14_lives.B6 = true := by kernel_rfl
set_option maxHeartbeats 8000000 in
set_option maxRecDepth 100000 in
theorem warrantorlaw14_lives.calls (k : Nat)  (r : Bool) (w : World) (h : warrantorlaw14_lives.f k  = some r) :
   Calls Try.prog 13 #[] w fun e w' => e = .returned (.bool r) ∧ Below w.heap.size w w' := by
 have hu39 := Try.underlying39
 have hu24 := Try.underlying24
 have hu26 := Try.underlying26
 have HB := Aside0.mk (Below.refl w.heap.size w)
 have H : ((warrantorref09_Box.f k (([(⟨0, 3⟩ : S39)] : List (S39)))).bind fun bt433 => ((post_Post.f k bt433.1 bt433.2 2 1 1 1 0).bind fun bt438 => ((post_Fault.f k bt433.1 bt433.2 5 1 0 2 0).bind fun bt445 => ((post_Post.f k bt433.1 bt433.2 0 0 0 0 0).bind fun bt451 => (if bt438.2.2 = 0 then ((warrantorref09_Box.f k (([(⟨1, 4⟩ : S39)] : List (S39)))).bind fun bt460 => ((warrantorref08_Same.f k bt438.1 bt438.2.1 bt460.1 bt460.2).bind fun t464 => (if t464 = true then (if bt445.2.2 = 0 then ((warrantorref09_Box.f k (([(⟨3, 3⟩ : S39)] : List (S39)))).bind fun bt468 => ((warrantorref08_Same.f k bt445.1 bt445.2.1 bt468.1 bt468.2).bind fun t472 => (if t472 = true then (if bt451.2.2 = 111 then ((post_May.f k bt433.1 bt433.2 5 1 0 2 0).bind fun t473 => (if t473 = true then ((post_Must.f k bt433.1 bt433.2 5 1 0 2 0).bind fun t474 => (if t474 = true then (none) else ((post_Must.f k bt445.1 bt445.2.1 5 1 0 2 0).bind fun t475 => (some t475)))) else (none))) else (none)) else (none)))) else (none)) else (none)))) else (none)))))) = some r := h
 clear h
 obtain ⟨y430, hy430⟩ : ∃ y_ : List (S39), y_ = (([(⟨0, 3⟩ : S39)] : List (S39))) := ⟨_, rfl⟩
 replace H : ((warrantorref09_Box.f k y430).bind fun bt433 => ((post_Post.f k bt433.1 bt433.2 2 1 1 1 0).bind fun bt438 => ((post_Fault.f k bt433.1 bt433.2 5 1 0 2 0).bind fun bt445 => ((post_Post.f k bt433.1 bt433.2 0 0 0 0 0).bind fun bt451 => (if bt438.2.2 = 0 then ((warrantorref09_Box.f k (([(⟨1, 4⟩ : S39)] : List (S39)))).bind fun bt460 => ((warrantorref08_Same.f k bt438.1 bt438.2.1 bt460.1 bt460.2).bind fun t464 => (if t464 = true then (if bt445.2.2 = 0 then ((warrantorref09_Box.f k (([(⟨3, 3⟩ : S39)] : List (S39)))).bind fun bt468 => ((warrantorref08_Same.f k bt445.1 bt445.2.1 bt468.1 bt468.2).bind fun t472 => (if t472 = true then (if bt451.2.2 = 111 then ((post_May.f k bt433.1 bt433.2 5 1 0 2 0).bind fun t473 => (if t473 = true then ((post_Must.f k bt433.1 bt433.2 5 1 0 2 0).bind fun t474 => (if t474 = true then (none) else ((post_Must.f k bt445.1 bt445.2.1 5 1 0 2 0).bind fun t475 => (some t475)))) else (none))) else (none)) else (none)))) else (none)) else (none)))) else (none)))))) = some r := by first | (rw [hy430]; with_reducible exact H) | (have H2_ := (Option.bind_some _ _).symm.trans H; rw [hy430]; with_reducible exact H2_) | (have H2_ := (Option.bind_some _ _).symm.trans H; with_reducible exact H2_) | with_reducible exact H | (rw [hy430]; exact H) | exact H
 have Ny430 := Aside0.mk hy430
 clear hy430
 replace H := bd_ H
 obtain ⟨⟨t433, t434⟩, A1, H⟩ := H
 (try dsimp only at H)
 replace H := bd_ H
 obtain ⟨⟨t438, t439, t442⟩, A2, H⟩ := H
 (try dsimp only at H)
 replace H := bd_ H
 obtain ⟨⟨t445, t446, t449⟩, A3, H⟩ := H
 (try dsimp only at H)
 replace H := bd_ H
 obtain ⟨⟨t451, t452, t455⟩, A4, H⟩ := H
 (try dsimp only at H)
 replace H := yes_ H
 obtain ⟨c5, H⟩ := H
 have c5b0 : (t442 == 0) = true := beq_iff_eq.mpr c5
 have c5b1 : (t442 != 0) = false := bne_eq_false_iff_eq.mpr c5
 clear c5
 obtain ⟨y457, hy457⟩ : ∃ y_ : List (S39), y_ = (([(⟨1, 4⟩ : S39)] : List (S39))) := ⟨_, rfl⟩
 replace H : ((warrantorref09_Box.f k y457).bind fun bt460 => ((warrantorref08_Same.f k t438 t439 bt460.1 bt460.2).bind fun t464 => (if t464 = true then (if t449 = 0 then ((warrantorref09_Box.f k (([(⟨3, 3⟩ : S39)] : List (S39)))).bind fun bt468 => ((warrantorref08_Same.f k t445 t446 bt468.1 bt468.2).bind fun t472 => (if t472 = true then (if t455 = 111 then ((post_May.f k t433 t434 5 1 0 2 0).bind fun t473 => (if t473 = true then ((post_Must.f k t433 t434 5 1 0 2 0).bind fun t474 => (if t474 = true then (none) else ((post_Must.f k t445 t446 5 1 0 2 0).bind fun t475 => (some t475)))) else (none))) else (none)) else (none)))) else (none)) else (none)))) = some r := by first | (rw [hy457]; with_reducible exact H) | (have H2_ := (Option.bind_some _ _).symm.trans H; rw [hy457]; with_reducible exact H2_) | (have H2_ := (Option.bind_some _ _).symm.trans H; with_reducible exact H2_) | with_reducible exact H | (rw [hy457]; exact H) | exact H
 have Ny457 := Aside0.mk hy457
 clear hy457
 replace H := bd_ H
 obtain ⟨⟨t460, t461⟩, A6, H⟩ := H
 (try dsimp only at H)
 replace H := bd_ H
 obtain ⟨t464, A7, H⟩ := H
 (try dsimp only at H)
 replace H := yes_ H
 obtain ⟨c8, H⟩ := H
 subst c8
 replace H := yes_ H
 obtain ⟨c9, H⟩ := H
 have c9b0 : (t449 == 0) = true := beq_iff_eq.mpr c9
 have c9b1 : (t449 != 0) = false := bne_eq_false_iff_eq.mpr c9
 clear c9
 obtain ⟨y465, hy465⟩ : ∃ y_ : List (S39), y_ = (([(⟨3, 3⟩ : S39)] : List (S39))) := ⟨_, rfl⟩
 replace H : ((warrantorref09_Box.f k y465).bind fun bt468 => ((warrantorref08_Same.f k t445 t446 bt468.1 bt468.2).bind fun t472 => (if t472 = true then (if t455 = 111 then ((post_May.f k t433 t434 5 1 0 2 0).bind fun t473 => (if t473 = true then ((post_Must.f k t433 t434 5 1 0 2 0).bind fun t474 => (if t474 = true then (none) else ((post_Must.f k t445 t446 5 1 0 2 0).bind fun t475 => (some t475)))) else (none))) else (none)) else (none)))) = some r := by first | (rw [hy465]; with_reducible exact H) | (have H2_ := (Option.bind_some _ _).symm.trans H; rw [hy465]; with_reducible exact H2_) | (have H2_ := (Option.bind_some _ _).symm.trans H; with_reducible exact H2_) | with_reducible exact H | (rw [hy465]; exact H) | exact H
 have Ny465 := Aside0.mk hy465
 clear hy465
 replace H := bd_ H
 obtain ⟨⟨t468, t469⟩, A10, H⟩ := H
 (try dsimp only at H)
 replace H := bd_ H
 obtain ⟨t472, A11, H⟩ := H
 (try dsimp only at H)
 replace H := yes_ H
 obtain ⟨c12, H⟩ := H
 subst c12
 replace H := yes_ H
 obtain ⟨c13, H⟩ := H
 have c13b0 : (t455 == 111) = true := beq_iff_eq.mpr c13
 have c13b1 : (t455 != 111) = false := bne_eq_false_iff_eq.mpr c13
 clear c13
 replace H := bd_ H
 obtain ⟨t473, A14, H⟩ := H
 (try dsimp only at H)
 replace H := yes_ H
 obtain ⟨c15, H⟩ := H
 subst c15
 replace H := bd_ H
 obtain ⟨t474, A16, H⟩ := H
 (try dsimp only at H)
 by_cases c17 : t474 = true
 · subst c17
   replace H := ps1_ H
   exact absurd H (by simp)
 replace c17 := Bool.eq_false_iff.mpr c17
 subst c17
 replace H := ng1_ H
 replace H := bd_ H
 obtain ⟨t475, A18, H⟩ := H
 (try dsimp only at H)
 obtain rfl := Option.some.inj H
 go_enter Try.func13, Try.ntmps13
 try go_wp2_with (first | ((with_reducible refine gate_dst (N := 10) rfl ?_); (try (refine gate_guard (by rfl) ?_; dsimp only)); refine Kd.R_lit k39 _ 39 ?hg (N := 10) ?hd (xs := ([(⟨0, 3⟩ : S39)] : List (S39))) (inner := [.int .i64 0, .int .i64 3]) (ok := fun _ => True) (okp := fun _ => True) ?hr ?hp (fun _ hk => hk) trivial (Below.refl _ _) (Nat.le_refl _) (by simp) ?_; (case hd => rfl); (case hg => rfl); (case hr => first | (go_simp; done) | (go_simp; rfl)); (case hp => exact (Reps.c2 (show Kd.M k39 _ _ _ (⟨0, 3⟩ : S39) [.int .i64 0, .int .i64 3] from (k39_mkM _ _ _ (⟨0, 3⟩ : S39) )) (Reps.none _ _))); intro v431 w19 ho20 hb hg_ hnew_; clear hg_ hnew_; (first | rw [← Ny430.out] at ho20 | (simp only [Int.reduceToNat] at ho20; rw [← Ny430.out] at ho20)); have n_ := a_ (Aside0.mk (Kd.R_lower ho20 (below_size HB_))) (bs_ HB hb); clear HB; obtain ⟨HO432, HB⟩ := n_; clear hb ho20; obtain ⟨Ao21, co21, eo21⟩ := Kd.R_slice HO432.out; subst eo21) | ((with_reducible refine gate_callee (f := 51) rfl ?_); refine goesL_ (some 11) rfl rfl Try.func51 (by kernel_rfl) rfl #[.slice Ao21 y430.length co21] rfl MP_ ?_; (with_reducible refine (warrantorref09_Box.calls k _ _ y430 t433 t434 _ ?side1 ?side2 A1.out).mono ?_); (case side1 => repeat (first | exact (Kd.R_reads' HO432.out).2.2 | (with_reducible refine Kd.C_alloc ?_ _) | (with_reducible refine Kd.C_drewN ?_ _) | (with_reducible refine Kd.C_drew ?_))); (case side2 => exact (Kd.R_reads' HO432.out).2.1); rintro e w22 ⟨v435, rfl, ho0, hb⟩; refine ⟨_, rfl, ?_⟩; have n_ := a_ (rb_ HO432 hb) (a_ (Aside0.mk (Kd.V_lower (Kd.V_mono (ok' := fun k_ => some k_ ≠ (.slice Ao21 y430.length co21 : Value).ownBlock) ho0 (fun k_ hk_ => (Kd.fresh' (Kd.R_lt (rd_ HO432.out)) k_ hk_))) (below_size HB_))) (bs_ HB hb)); clear HO432 HB; obtain ⟨HO432, HO436, HB⟩ := n_; (try clear hb); (try clear hb2); (try clear hk); (try clear hi); (try clear ho0)) | ((with_reducible refine gate_dst (N := 1) rfl ?_); (try (refine gate_guard (by rfl) ?_; dsimp only)); refine bx_ (N := 1) (cs := #[.int .i64 0, .slice none 0 0]) (t := 24) ?_; intro gb437 hg w23 hbox hb; have n_ := a_ (rb_ HO432 hb) (a_ (Aside0.mk (Kd.V_below (Kd.V_elderB (by (with_reducible repeat (first | apply Kd.V_alloc | apply Kd.V_drewN | apply Kd.V_drew)); exact HO436.out) gb437 (Nat.le_of_eq hg.symm)) hb)) (a_ (bs_ HB hb) (a_ (Aside0.mk hbox) (a_ (gs_ HB hg) (gs_ HB hg))))); clear HO432 HO436 HB; obtain ⟨HO432, HO436, HB, BK437, GW437, GE437⟩ := n_; clear hb hbox hg; obtain ⟨hcz24_0, hcz24_1, hfz24_0, hfz24_1⟩ := cz2_ BK437; obtain ⟨Ao25, co25, eo25⟩ := Kd.V_slice HO436.out; subst eo25) | ((with_reducible refine gate_callee (f := 15) rfl ?_); refine goesL_ (some 15) rfl rfl Try.func15 (by kernel_rfl) rfl #[.agg #[.int .i64 t433, .slice Ao25 t434.length co25], .agg #[.int .i64 2, .int .i64 1, .int .i64 1, .int .i64 1, .int .i64 0]] rfl MP_ ?_; (with_reducible refine (post_Post.calls k t433 _ _ t434 2 1 1 1 0 t438 t439 t442 _ ?side1 ?side2 A2.out).mono ?_); (case side1 => refine (Kd.V_reads' (e := 3) (base := w.heap.size) (ok := fun k_ => (some k_ ≠ (.slice Ao21 y430.length co21 : Value).ownBlock ∧ k_ ≠ gb437)) (n := t434.length) (c := co25) ?_).2.2; exact (by (with_reducible repeat (first | apply Kd.V_alloc | apply Kd.V_drewN | apply Kd.V_drew)); exact (Kd.V_mono (Kd.V_far (p := ⟨gb437, 1, none⟩) (Kd.V_far (p := ⟨gb437, 0, none⟩) (Kd.V_mono HO436.out (fun k_ hk => (⟨hk, hk.2⟩ : _ ∧ k_ ≠ gb437))) (fun _ hk => hk.2) (.int .i64 t433)) (fun _ hk => hk.2) (.slice Ao25 t434.length co25)) (fun _ h_ => h_.1)))); (case side2 => exact (Kd.V_reads' HO436.out).2.1); rintro e w26 ⟨v440, rfl, ho0, hb⟩; refine ⟨_, rfl, ?_⟩; have n_ := a_ (Aside0.mk (Kd.R_below (rd_ (rf2_ HO432 BK437 (.int .i64 t433) (.slice Ao25 t434.length co25))) hb)) (a_ (Aside0.mk (Kd.V_elder' (by (with_reducible repeat (first | apply Kd.V_alloc | apply Kd.V_drewN | apply Kd.V_drew)); exact (Kd.V_mono (Kd.V_far (p := ⟨gb437, 1, none⟩) (Kd.V_far (p := ⟨gb437, 0, none⟩) (Kd.V_mono HO436.out (fun k_ hk => (⟨hk, hk.2⟩ : _ ∧ k_ ≠ gb437))) (fun _ hk => hk.2) (.int .i64 t433)) (fun _ hk => hk.2) (.slice Ao25 t434.length co25)) (fun _ h_ => h_.1))) (Kd.R_base ho0) hb)) (a_ (Aside0.mk (Kd.R_lower ho0 (below_size HB_))) (a_ (bc_ #[.int .i64 t433, .slice Ao25 t434.length co25] 24 BK437 hb) (bs_ HB hb)))); clear HO432 HO436 BK437 HB; obtain ⟨HO432, HO436, HO441, BK437, HB⟩ := n_; (try clear hb); (try clear hb2); (try clear hk); (try clear hi); (try clear ho0)) | ((with_reducible refine gate_dst (N := 2) rfl ?_); (try (refine gate_guard (by rfl) ?_; dsimp only)); refine bx_ (N := 2) (cs := #[.int .i64 0, .slice none 0 0]) (t := 24) ?_; intro gb443 hg w27 hbox hb; have n_ := a_ (rb_ HO432 hb) (a_ (Aside0.mk (Kd.V_below (Kd.V_elderB (by (with_reducible repeat (first | apply Kd.V_alloc | apply Kd.V_drewN | apply Kd.V_drew)); exact HO436.out) gb443 (Nat.le_of_eq hg.symm)) hb)) (a_ (rb_ HO441 hb) (a_ (bb_ BK437 hb) (a_ (bs_ HB hb) (a_ (Aside0.mk hbox) (a_ (gs_ HB hg) (a_ (gs_ HB hg) (a_ (nl_ BK437 hg) (ng_ BK437 hg))))))))); clear HO432 HO436 HO441 BK437 HB; obtain ⟨HO432, HO436, HO441, BK437, HB, BK443, GW443, GE443, NB437_443, NB443_437⟩ := n_; clear hb hbox hg; have hnb28 := NB443_437.out; have hnc28 := NB437_443.out; obtain ⟨hcz29_0, hcz29_1, hfz29_0, hfz29_1⟩ := cz2_ BK443; obtain ⟨Ao30, co30, eo30⟩ := Kd.R_slice HO441.out; subst eo30) | ((with_reducible refine gate_dst (N := 4) rfl ?_); (try (refine gate_guard (by rfl) ?_; dsimp only)); refine bx_ (N := 4) (cs := #[.int .i64 0, .int .i64 0, .int .i64 0, .int .i64 0, .int .i64 0]) (t := 26) ?_; intro gb444 hg w31 hbox hb; have n_ := a_ (Aside0.mk (Kd.R_below (rd_ (rf2_ HO432 BK443 (.int .i64 t438) (.slice Ao30 t439.length co30))) hb)) (a_ (Aside0.mk (Kd.V_below (Kd.V_elderB (by (with_reducible repeat (first | apply Kd.V_alloc | apply Kd.V_drewN | apply Kd.V_drew)); exact (Kd.V_mono (Kd.V_far (p := ⟨gb443, 1, none⟩) (Kd.V_far (p := ⟨gb443, 0, none⟩) (Kd.V_mono HO436.out (fun k_ hk => (⟨hk, hk.2⟩ : _ ∧ k_ ≠ gb443))) (fun _ hk => hk.2) (.int .i64 t438)) (fun _ hk => hk.2) (.slice Ao30 t439.length co30)) (fun _ h_ => h_.1))) gb444 (Nat.le_of_eq hg.symm)) hb)) (a_ (Aside0.mk (Kd.R_below (rd_ (rf2_ HO441 BK443 (.int .i64 t438) (.slice Ao30 t439.length co30))) hb)) (a_ (bc_ #[.int .i64 t433, .slice Ao25 t434.length co25] 24 BK437 hb) (a_ (bc_ #[.int .i64 t438, .slice Ao30 t439.length co30] 24 BK443 hb) (a_ (bs_ HB hb) (a_ (Aside0.mk hbox) (a_ (gs_ HB hg) (a_ (gs_ HB hg) (a_ (Aside0.mk (by rw [hg]; exact Nat.ne_of_lt (blk_lt (g := gb437) (o := .cells #[.int .i64 t433, .slice Ao25 t434.length co25] 24 (0, 0)) (bk2_ BK437.out)) : gb437 ≠ gb444)) (a_ (Aside0.mk (by rw [hg]; exact Nat.ne_of_gt (blk_lt (g := gb437) (o := .cells #[.int .i64 t433, .slice Ao25 t434.length co25] 24 (0, 0)) (bk2_ BK437.out)) : gb444 ≠ gb437)) (a_ (Aside0.mk (by rw [hg]; exact Nat.ne_of_lt (blk_lt (g := gb443) (o := .cells #[.int .i64 t438, .slice Ao30 t439.length co30] 24 (0, 0)) (bk2_ BK443.out)) : gb443 ≠ gb444)) (Aside0.mk (by rw [hg]; exact Nat.ne_of_gt (blk_lt (g := gb443) (o := .cells #[.int .i64 t438, .slice Ao30 t439.length co30] 24 (0, 0)) (bk2_ BK443.out)) : gb444 ≠ gb443))))))))))))); clear HO432 HO436 HO441 BK437 BK443 HB; obtain ⟨HO432, HO436, HO441, BK437, BK443, HB, BK444, GW444, GE444, NB437_444, NB444_437, NB443_444, NB444_443⟩ := n_; clear hb hbox hg; have hnb32 := NB444_437.out; have hnc32 := NB437_444.out; have hnb33 := NB444_443.out; have hnc33 := NB443_444.out; obtain ⟨hcz34_0, hcz34_1, hcz34_2, hcz34_3, hcz34_4, hfz34_0, hfz34_1, hfz34_2, hfz34_3, hfz34_4⟩ := cz5_ BK444; obtain ⟨hcz35_0, hcz35_1, hfz35_0, hfz35_1⟩ := cz2_ BK437) | ((with_reducible refine gate_callee (f := 16) rfl ?_); refine goesL_ (some 22) rfl rfl Try.func16 (by kernel_rfl) rfl #[.agg #[.int .i64 t433, .slice Ao25 t434.length co25], .agg #[.int .i64 5, .int .i64 1, .int .i64 0, .int .i64 2, .int .i64 0]] rfl MP_ ?_; (with_reducible refine (post_Fault.calls k t433 _ _ t434 5 1 0 2 0 t445 t446 t449 _ ?side1 ?side2 A3.out).mono ?_); (case side1 => refine (Kd.V_reads' (e := 3) (base := w.heap.size) (ok := fun k_ => ((((some k_ ≠ (.slice Ao21 y430.length co21 : Value).ownBlock ∧ k_ ≠ gb437) ∧ some k_ ≠ (.slice Ao30 t439.length co30 : Value).ownBlock) ∧ k_ ≠ gb443) ∧ k_ ≠ gb444)) (n := t434.length) (c := co25) ?_).2.2; exact (by (with_reducible repeat (first | apply Kd.V_alloc | apply Kd.V_drewN | apply Kd.V_drew)); exact (Kd.V_mono (Kd.V_far (p := ⟨gb444, 4, none⟩) (Kd.V_far (p := ⟨gb444, 3, none⟩) (Kd.V_far (p := ⟨gb444, 2, none⟩) (Kd.V_far (p := ⟨gb444, 1, none⟩) (Kd.V_far (p := ⟨gb444, 0, none⟩) (Kd.V_mono HO436.out (fun k_ hk => (⟨hk, hk.2⟩ : _ ∧ k_ ≠ gb444))) (fun _ hk => hk.2) (.int .i64 5)) (fun _ hk => hk.2) (.int .i64 1)) (fun _ hk => hk.2) (.int .i64 0)) (fun _ hk => hk.2) (.int .i64 2)) (fun _ hk => hk.2) (.int .i64 0)) (fun _ h_ => h_.1)))); (case side2 => exact (Kd.V_reads' HO436.out).2.1); rintro e w36 ⟨v447, rfl, ho0, hb⟩; refine ⟨_, rfl, ?_⟩; have n_ := a_ (Aside0.mk (Kd.R_below (rd_ (Kd.R_mono (Kd.R_far (p := ⟨gb444, 4, none⟩) (Kd.R_far (p := ⟨gb444, 3, none⟩) (Kd.R_far (p := ⟨gb444, 2, none⟩) (Kd.R_far (p := ⟨gb444, 1, none⟩) (Kd.R_far (p := ⟨gb444, 0, none⟩) (Kd.R_types HO432.out BK444.out (by decide)) (fun _ hk => hk.2) (.int .i64 5)) (fun _ hk => hk.2) (.int .i64 1)) (fun _ hk => hk.2) (.int .i64 0)) (fun _ hk => hk.2) (.int .i64 2)) (fun _ hk => hk.2) (.int .i64 0)) (fun _ h_ => h_.1))) hb)) (a_ (Aside0.mk (Kd.V_elder' (by (with_reducible repeat (first | apply Kd.V_alloc | apply Kd.V_drewN | apply Kd.V_drew)); exact (Kd.V_mono (Kd.V_far (p := ⟨gb444, 4, none⟩) (Kd.V_far (p := ⟨gb444, 3, none⟩) (Kd.V_far (p := ⟨gb444, 2, none⟩) (Kd.V_far (p := ⟨gb444, 1, none⟩) (Kd.V_far (p := ⟨gb444, 0, none⟩) (Kd.V_mono HO436.out (fun k_ hk => (⟨hk, hk.2⟩ : _ ∧ k_ ≠ gb444))) (fun _ hk => hk.2) (.int .i64 5)) (fun _ hk => hk.2) (.int .i64 1)) (fun _ hk => hk.2) (.int .i64 0)) (fun _ hk => hk.2) (.int .i64 2)) (fun _ hk => hk.2) (.int .i64 0)) (fun _ h_ => h_.1))) (Kd.R_base ho0) hb)) (a_ (Aside0.mk (Kd.R_elder' (rd_ (Kd.R_mono (Kd.R_far (p := ⟨gb444, 4, none⟩) (Kd.R_far (p := ⟨gb444, 3, none⟩) (Kd.R_far (p := ⟨gb444, 2, none⟩) (Kd.R_far (p := ⟨gb444, 1, none⟩) (Kd.R_far (p := ⟨gb444, 0, none⟩) (Kd.R_types HO441.out BK444.out (by decide)) (fun _ hk => hk.2) (.int .i64 5)) (fun _ hk => hk.2) (.int .i64 1)) (fun _ hk => hk.2) (.int .i64 0)) (fun _ hk => hk.2) (.int .i64 2)) (fun _ hk => hk.2) (.int .i64 0)) (fun _ h_ => h_.1))) (Kd.R_base ho0) hb)) (a_ (Aside0.mk (Kd.R_lower (Kd.R_new' ho0 (Kd.R_lt (rd_ (Kd.R_mono (Kd.R_far (p := ⟨gb444, 4, none⟩) (Kd.R_far (p := ⟨gb444, 3, none⟩) (Kd.R_far (p := ⟨gb444, 2, none⟩) (Kd.R_far (p := ⟨gb444, 1, none⟩) (Kd.R_far (p := ⟨gb444, 0, none⟩) (Kd.R_types HO441.out BK444.out (by decide)) (fun _ hk => hk.2) (.int .i64 5)) (fun _ hk => hk.2) (.int .i64 1)) (fun _ hk => hk.2) (.int .i64 0)) (fun _ hk => hk.2) (.int .i64 2)) (fun _ hk => hk.2) (.int .i64 0)) (fun _ h_ => h_.1))))) (below_size HB_))) (a_ (bc_ #[.int .i64 t433, .slice Ao25 t434.length co25] 24 BK437 hb) (a_ (bc_ #[.int .i64 t438, .slice Ao30 t439.length co30] 24 BK443 hb) (a_ (bc_ #[.int .i64 5, .int .i64 1, .int .i64 0, .int .i64 2, .int .i64 0] 26 BK444 hb) (bs_ HB hb))))))); clear HO432 HO436 HO441 BK437 BK443 BK444 HB; obtain ⟨HO432, HO436, HO441, HO448, BK437, BK443, BK444, HB⟩ := n_; (try clear hb); (try clear hb2); (try clear hk); (try clear hi); (try clear ho0)) | ((with_reducible refine gate_dst (N := 5) rfl ?_); (try (refine gate_guard (by rfl) ?_; dsimp only)); refine bx_ (N := 5) (cs := #[.int .i64 0, .slice none 0 0]) (t := 24) ?_; intro gb450 hg w37 hbox hb; have n_ := a_ (rb_ HO432 hb) (a_ (Aside0.mk (Kd.V_below (Kd.V_elderB (by (with_reducible repeat (first | apply Kd.V_alloc | apply Kd.V_drewN | apply Kd.V_drew)); exact HO436.out) gb450 (Nat.le_of_eq hg.symm)) hb)) (a_ (rb_ HO441 hb) (a_ (rb_ HO448 hb) (a_ (bb_ BK437 hb) (a_ (bb_ BK443 hb) (a_ (bb_ BK444 hb) (a_ (bs_ HB hb) (a_ (Aside0.mk hbox) (a_ (gs_ HB hg) (a_ (gs_ HB hg) (a_ (nl_ BK437 hg) (a_ (ng_ BK437 hg) (a_ (nl_ BK443 hg) (a_ (ng_ BK443 hg) (a_ (nl_ BK444 hg) (ng_ BK444 hg)))))))))))))))); clear HO432 HO436 HO441 HO448 BK437 BK443 BK444 HB; obtain ⟨HO432, HO436, HO441, HO448, BK437, BK443, BK444, HB, BK450, GW450, GE450, NB437_450, NB450_437, NB443_450, NB450_443, NB444_450, NB450_444⟩ := n_; clear hb hbox hg; have hnb38 := NB450_437.out; have hnc38 := NB437_450.out; have hnb39 := NB450_443.out; have hnc39 := NB443_450.out; have hnb40 := NB450_444.out; have hnc40 := NB444_450.out; obtain ⟨hcz41_0, hcz41_1, hfz41_0, hfz41_1⟩ := cz2_ BK450; obtain ⟨Ao42, co42, eo42⟩ := Kd.R_slice HO448.out; subst eo42; obtain ⟨hcz43_0, hcz43_1, hfz43_0, hfz43_1⟩ := cz2_ BK437) | ((with_reducible refine gate_callee (f := 15) rfl ?_); refine goesL_ (some 28) rfl rfl Try.func15 (by kernel_rfl) rfl #[.agg #[.int .i64 t433, .slice Ao25 t434.length co25], .agg #[.int .i64 0, .int .i64 0, .int .i64 0, .int .i64 0, .int .i64 0]] rfl MP_ ?_; (with_reducible refine (post_Post.calls k t433 _ _ t434 0 0 0 0 0 t451 t452 t455 _ ?side1 ?side2 A4.out).mono ?_); (case side1 => refine (Kd.V_reads' (e := 3) (base := w.heap.size) (ok := fun k_ => ((((((some k_ ≠ (.slice Ao21 y430.length co21 : Value).ownBlock ∧ k_ ≠ gb437) ∧ some k_ ≠ (.slice Ao30 t439.length co30 : Value).ownBlock) ∧ k_ ≠ gb443) ∧ k_ ≠ gb444) ∧ some k_ ≠ (.slice Ao42 t446.length co42 : Value).ownBlock) ∧ k_ ≠ gb450)) (n := t434.length) (c := co25) ?_).2.2; exact (by (with_reducible repeat (first | apply Kd.V_alloc | apply Kd.V_drewN | apply Kd.V_drew)); exact (Kd.V_mono (Kd.V_far (p := ⟨gb450, 1, none⟩) (Kd.V_far (p := ⟨gb450, 0, none⟩) (Kd.V_mono HO436.out (fun k_ hk => (⟨hk, hk.2⟩ : _ ∧ k_ ≠ gb450))) (fun _ hk => hk.2) (.int .i64 t445)) (fun _ hk => hk.2) (.slice Ao42 t446.length co42)) (fun _ h_ => h_.1)))); (case side2 => exact (Kd.V_reads' HO436.out).2.1); rintro e w44 ⟨v453, rfl, ho0, hb⟩; refine ⟨_, rfl, ?_⟩; have n_ := a_ (Aside0.mk (Kd.R_below (rd_ (rf2_ HO432 BK450 (.int .i64 t445) (.slice Ao42 t446.length co42))) hb)) (a_ (Aside0.mk (Kd.V_elder' (by (with_reducible repeat (first | apply Kd.V_alloc | apply Kd.V_drewN | apply Kd.V_drew)); exact (Kd.V_mono (Kd.V_far (p := ⟨gb450, 1, none⟩) (Kd.V_far (p := ⟨gb450, 0, none⟩) (Kd.V_mono HO436.out (fun k_ hk => (⟨hk, hk.2⟩ : _ ∧ k_ ≠ gb450))) (fun _ hk => hk.2) (.int .i64 t445)) (fun _ hk => hk.2) (.slice Ao42 t446.length co42)) (fun _ h_ => h_.1))) (Kd.R_base ho0) hb)) (a_ (Aside0.mk (Kd.R_elder' (rd_ (rf2_ HO441 BK450 (.int .i64 t445) (.slice Ao42 t446.length co42))) (Kd.R_base ho0) hb)) (a_ (Aside0.mk (Kd.R_elder' (rd_ (rf2_ HO448 BK450 (.int .i64 t445) (.slice Ao42 t446.length co42))) (Kd.R_base ho0) hb)) (a_ (Aside0.mk (Kd.R_lower (Kd.R_new' (Kd.R_new' ho0 (Kd.R_lt (rd_ (rf2_ HO441 BK450 (.int .i64 t445) (.slice Ao42 t446.length co42))))) (Kd.R_lt (rd_ (rf2_ HO448 BK450 (.int .i64 t445) (.slice Ao42 t446.length co42))))) (below_size HB_))) (a_ (bc_ #[.int .i64 t433, .slice Ao25 t434.length co25] 24 BK437 hb) (a_ (bc_ #[.int .i64 t438, .slice Ao30 t439.length co30] 24 BK443 hb) (a_ (bc_ #[.int .i64 5, .int .i64 1, .int .i64 0, .int .i64 2, .int .i64 0] 26 BK444 hb) (a_ (bc_ #[.int .i64 t445, .slice Ao42 t446.length co42] 24 BK450 hb) (bs_ HB hb))))))))); clear HO432 HO436 HO441 HO448 BK437 BK443 BK444 BK450 HB; obtain ⟨HO432, HO436, HO441, HO448, HO454, BK437, BK443, BK444, BK450, HB⟩ := n_; (try clear hb); (try clear hb2); (try clear hk); (try clear hi); (try clear ho0)) | ((with_reducible refine gate_dst (N := 7) rfl ?_); (try (refine gate_guard (by rfl) ?_; dsimp only)); refine bx_ (N := 7) (cs := #[.int .i64 0, .slice none 0 0]) (t := 24) ?_; intro gb456 hg w45 hbox hb; have n_ := a_ (rb_ HO432 hb) (a_ (Aside0.mk (Kd.V_below (Kd.V_elderB (by (with_reducible repeat (first | apply Kd.V_alloc | apply Kd.V_drewN | apply Kd.V_drew)); exact HO436.out) gb456 (Nat.le_of_eq hg.symm)) hb)) (a_ (rb_ HO441 hb) (a_ (rb_ HO448 hb) (a_ (rb_ HO454 hb) (a_ (bb_ BK437 hb) (a_ (bb_ BK443 hb) (a_ (bb_ BK444 hb) (a_ (bb_ BK450 hb) (a_ (bs_ HB hb) (a_ (Aside0.mk hbox) (a_ (gs_ HB hg) (a_ (gs_ HB hg) (a_ (nl_ BK437 hg) (a_ (ng_ BK437 hg) (a_ (nl_ BK443 hg) (a_ (ng_ BK443 hg) (a_ (nl_ BK444 hg) (a_ (ng_ BK444 hg) (a_ (nl_ BK450 hg) (ng_ BK450 hg)))))))))))))))))))); clear HO432 HO436 HO441 HO448 HO454 BK437 BK443 BK444 BK450 HB; obtain ⟨HO432, HO436, HO441, HO448, HO454, BK437, BK443, BK444, BK450, HB, BK456, GW456, GE456, NB437_456, NB456_437, NB443_456, NB456_443, NB444_456, NB456_444, NB450_456, NB456_450⟩ := n_; clear hb hbox hg; have hnb46 := NB456_437.out; have hnc46 := NB437_456.out; have hnb47 := NB456_443.out; have hnc47 := NB443_456.out; have hnb48 := NB456_444.out; have hnc48 := NB444_456.out; have hnb49 := NB456_450.out; have hnc49 := NB450_456.out; obtain ⟨hcz50_0, hcz50_1, hfz50_0, hfz50_1⟩ := cz2_ BK456; obtain ⟨Ao51, co51, eo51⟩ := Kd.R_slice HO454.out; subst eo51))
 have n0_ : Aside0 (Kd.R k39 39 ((w45.setCell ⟨gb456, 0, none⟩ (.int .i64 t451)).setCell ⟨gb456, 1, none⟩ (.slice Ao51 t452.length co51)) w.heap.size (fun _ => True) (.slice Ao21 y430.length co21) y430) := ⟨by (with_reducible repeat (first | apply Kd.R_alloc | apply Kd.R_drewN | apply Kd.R_drew)); exact Kd.R_mono (Kd.R_far (p := ⟨gb456, 1, none⟩) (Kd.R_far (p := ⟨gb456, 0, none⟩) (Kd.R_types HO432.out BK456.out (by decide)) (fun _ hk => hk.2) (.int .i64 t451)) (fun _ hk => hk.2) (.slice Ao51 t452.length co51)) (fun _ hk => trivial)⟩
 have n1_ : Aside0 (Kd.V (Kd.int .i64) 3 ((w45.setCell ⟨gb456, 0, none⟩ (.int .i64 t451)).setCell ⟨gb456, 1, none⟩ (.slice Ao51 t452.length co51)) w.heap.size (fun k_ => some k_ ≠ (.slice Ao21 y430.length co21 : Value).ownBlock ∧ some k_ ≠ (.slice Ao30 t439.length co30 : Value).ownBlock ∧ some k_ ≠ (.slice Ao42 t446.length co42 : Value).ownBlock ∧ some k_ ≠ (.slice Ao51 t452.length co51 : Value).ownBlock ∧ k_ ≠ gb437 ∧ k_ ≠ gb443 ∧ k_ ≠ gb444 ∧ k_ ≠ gb450 ∧ k_ ≠ gb456) (.slice Ao25 t434.length co25) t434) := ⟨by (with_reducible repeat (first | apply Kd.V_alloc | apply Kd.V_drewN | apply Kd.V_drew)); exact Kd.V_mono (Kd.V_far (p := ⟨gb456, 1, none⟩) (Kd.V_far (p := ⟨gb456, 0, none⟩) (Kd.V_mono HO436.out (fun k_ hk => (⟨hk, hk.2⟩ : _ ∧ k_ ≠ gb456))) (fun _ hk => hk.2) (.int .i64 t451)) (fun _ hk => hk.2) (.slice Ao51 t452.length co51)) (fun _ hk => ⟨hk.1.1.1.1.1.1.1.1.1, ⟨hk.1.1.1.1.1.1.1.2, ⟨hk.1.1.1.1.2, ⟨hk.1.1.2, ⟨hk.1.1.1.1.1.1.1.1.2, ⟨hk.1.1.1.1.1.1.2, ⟨hk.1.1.1.1.1.2, ⟨hk.1.1.1.2, hk.1.2⟩⟩⟩⟩⟩⟩⟩⟩)⟩
 have n2_ : Aside0 (Kd.R (Kd.int .i64) 3 ((w45.setCell ⟨gb456, 0, none⟩ (.int .i64 t451)).setCell ⟨gb456, 1, none⟩ (.slice Ao51 t452.length co51)) w.heap.size (fun k_ => some k_ ≠ (.slice Ao42 t446.length co42 : Value).ownBlock ∧ some k_ ≠ (.slice Ao51 t452.length co51 : Value).ownBlock) (.slice Ao30 t439.length co30) t439) := ⟨by (with_reducible repeat (first | apply Kd.R_alloc | apply Kd.R_drewN | apply Kd.R_drew)); exact Kd.R_mono (Kd.R_far (p := ⟨gb456, 1, none⟩) (Kd.R_far (p := ⟨gb456, 0, none⟩) (Kd.R_types HO441.out BK456.out (by decide)) (fun _ hk => hk.2) (.int .i64 t451)) (fun _ hk => hk.2) (.slice Ao51 t452.length co51)) (fun _ hk => ⟨hk.1.1.2, hk.1.2⟩)⟩
 have n3_ : Aside0 (Kd.R (Kd.int .i64) 3 ((w45.setCell ⟨gb456, 0, none⟩ (.int .i64 t451)).setCell ⟨gb456, 1, none⟩ (.slice Ao51 t452.length co51)) w.heap.size (fun k_ => some k_ ≠ (.slice Ao30 t439.length co30 : Value).ownBlock ∧ some k_ ≠ (.slice Ao51 t452.length co51 : Value).ownBlock) (.slice Ao42 t446.length co42) t446) := ⟨by (with_reducible repeat (first | apply Kd.R_alloc | apply Kd.R_drewN | apply Kd.R_drew)); exact Kd.R_mono (Kd.R_far (p := ⟨gb456, 1, none⟩) (Kd.R_far (p := ⟨gb456, 0, none⟩) (Kd.R_types HO448.out BK456.out (by decide)) (fun _ hk => hk.2) (.int .i64 t451)) (fun _ hk => hk.2) (.slice Ao51 t452.length co51)) (fun _ hk => ⟨hk.1.1.2, hk.1.2⟩)⟩
 have n4_ : Aside0 (Kd.R (Kd.int .i64) 3 ((w45.setCell ⟨gb456, 0, none⟩ (.int .i64 t451)).setCell ⟨gb456, 1, none⟩ (.slice Ao51 t452.length co51)) w.heap.size (fun k_ => some k_ ≠ (.slice Ao30 t439.length co30 : Value).ownBlock ∧ some k_ ≠ (.slice Ao42 t446.length co42 : Value).ownBlock) (.slice Ao51 t452.length co51) t452) := ⟨by (with_reducible repeat (first | apply Kd.R_alloc | apply Kd.R_drewN | apply Kd.R_drew)); exact Kd.R_mono (Kd.R_far (p := ⟨gb456, 1, none⟩) (Kd.R_far (p := ⟨gb456, 0, none⟩) (Kd.R_types HO454.out BK456.out (by decide)) (fun _ hk => hk.2) (.int .i64 t451)) (fun _ hk => hk.2) (.slice Ao51 t452.length co51)) (fun _ hk => ⟨hk.1.1.2, hk.1.2⟩)⟩
 have n5_ : Aside0 (((w45.setCell ⟨gb456, 0, none⟩ (.int .i64 t451)).setCell ⟨gb456, 1, none⟩ (.slice Ao51 t452.length co51)).heap[gb437]? = some (.cells #[.int .i64 t433, .slice Ao25 t434.length co25] 24 (0, 0))) := ⟨by (with_reducible repeat (first | refine blk_drewN ?_ _ | refine blk_drew ?_ | refine blk_alloc ?_ _)); refine blk_far ?_ NB437_456.out _; (with_reducible repeat (first | refine blk_drewN ?_ _ | refine blk_drew ?_ | refine blk_alloc ?_ _)); refine blk_far ?_ NB437_456.out _; (with_reducible repeat (first | refine blk_drewN ?_ _ | refine blk_drew ?_ | refine blk_alloc ?_ _)); exact BK437.out⟩
 have n6_ : Aside0 (((w45.setCell ⟨gb456, 0, none⟩ (.int .i64 t451)).setCell ⟨gb456, 1, none⟩ (.slice Ao51 t452.length co51)).heap[gb443]? = some (.cells #[.int .i64 t438, .slice Ao30 t439.length co30] 24 (0, 0))) := ⟨by (with_reducible repeat (first | refine blk_drewN ?_ _ | refine blk_drew ?_ | refine blk_alloc ?_ _)); refine blk_far ?_ NB443_456.out _; (with_reducible repeat (first | refine blk_drewN ?_ _ | refine blk_drew ?_ | refine blk_alloc ?_ _)); refine blk_far ?_ NB443_456.out _; (with_reducible repeat (first | refine blk_drewN ?_ _ | refine blk_drew ?_ | refine blk_alloc ?_ _)); exact BK443.out⟩
 have n7_ : Aside0 (((w45.setCell ⟨gb456, 0, none⟩ (.int .i64 t451)).setCell ⟨gb456, 1, none⟩ (.slice Ao51 t452.length co51)).heap[gb444]? = some (.cells #[.int .i64 5, .int .i64 1, .int .i64 0, .int .i64 2, .int .i64 0] 26 (0, 0))) := ⟨by (with_reducible repeat (first | refine blk_drewN ?_ _ | refine blk_drew ?_ | refine blk_alloc ?_ _)); refine blk_far ?_ NB444_456.out _; (with_reducible repeat (first | refine blk_drewN ?_ _ | refine blk_drew ?_ | refine blk_alloc ?_ _)); refine blk_far ?_ NB444_456.out _; (with_reducible repeat (first | refine blk_drewN ?_ _ | refine blk_drew ?_ | refine blk_alloc ?_ _)); exact BK444.out⟩
 have n8_ : Aside0 (((w45.setCell ⟨gb456, 0, none⟩ (.int .i64 t451)).setCell ⟨gb456, 1, none⟩ (.slice Ao51 t452.length co51)).heap[gb450]? = some (.cells #[.int .i64 t445, .slice Ao42 t446.length co42] 24 (0, 0))) := ⟨by (with_reducible repeat (first | refine blk_drewN ?_ _ | refine blk_drew ?_ | refine blk_alloc ?_ _)); refine blk_far ?_ NB450_456.out _; (with_reducible repeat (first | refine blk_drewN ?_ _ | refine blk_drew ?_ | refine blk_alloc ?_ _)); refine blk_far ?_ NB450_456.out _; (with_reducible repeat (first | refine blk_drewN ?_ _ | refine blk_drew ?_ | refine blk_alloc ?_ _)); exact BK450.out⟩
 have n9_ : Aside0 (((w45.setCell ⟨gb456, 0, none⟩ (.int .i64 t451)).setCell ⟨gb456, 1, none⟩ (.slice Ao51 t452.length co51)).heap[gb456]? = some (.cells #[.int .i64 t451, .slice Ao51 t452.length co51] 24 (0, 0))) := ⟨by (with_reducible repeat (first | refine blk_drewN ?_ _ | refine blk_drew ?_ | refine blk_alloc ?_ _)); refine blk_put (cs := #[.int .i64 t451, .slice none 0 0]) ?_ 1 _ rfl; (with_reducible repeat (first | refine blk_drewN ?_ _ | refine blk_drew ?_ | refine blk_alloc ?_ _)); refine blk_put (cs := #[.int .i64 0, .slice none 0 0]) ?_ 0 _ rfl; (with_reducible repeat (first | refine blk_drewN ?_ _ | refine blk_drew ?_ | refine blk_alloc ?_ _)); exact BK456.out⟩
 have n10_ : Aside0 (Below w.heap.size w ((w45.setCell ⟨gb456, 0, none⟩ (.int .i64 t451)).setCell ⟨gb456, 1, none⟩ (.slice Ao51 t452.length co51))) := ⟨HB_⟩
 (try clear HO432)
 (try clear HO436)
 (try clear HO441)
 (try clear HO448)
 (try clear HO454)
 (try clear BK437)
 (try clear BK443)
 (try clear BK444)
 (try clear BK450)
 (try clear BK456)
 (try clear HB)
 generalize ((w45.setCell ⟨gb456, 0, none⟩ (.int .i64 t451)).setCell ⟨gb456, 1, none⟩ (.slice Ao51 t452.length co51)) = w52 at n0_ n1_ n2_ n3_ n4_ n5_ n6_ n7_ n8_ n9_ n10_ ⊢
 have HO432 := n0_
 have HO436 := n1_
 have HO441 := n2_
 have HO448 := n3_
 have HO454 := n4_
 have BK437 := n5_
 have BK443 := n6_
 have BK444 := n7_
 have BK450 := n8_
 have BK456 := n9_
 have HB := n10_
 clear n0_ n1_ n2_ n3_ n4_ n5_ n6_ n7_ n8_ n9_ n10_
 have n_ := a_ (Aside0.mk (Kd.R_drew HO432.out)) (a_ (Aside0.mk (Kd.V_drew HO436.out)) (a_ (Aside0.mk (Kd.R_drew HO441.out)) (a_ (Aside0.mk (Kd.R_drew HO448.out)) (a_ (Aside0.mk (Kd.R_drew HO454.out)) (a_ (Aside0.mk (blk_drew BK437.out)) (a_ (Aside0.mk (blk_drew BK443.out)) (a_ (Aside0.mk (blk_drew BK444.out)) (a_ (Aside0.mk (blk_drew BK450.out)) (a_ (Aside0.mk (blk_drew BK456.out)) (Aside0.mk (below_drew1 HB.out)))))))))))
 clear HO432 HO436 HO441 HO448 HO454 BK437 BK443 BK444 BK450 BK456 HB
 obtain ⟨HO432, HO436, HO441, HO448, HO454, BK437, BK443, BK444, BK450, BK456, HB⟩ := n_
 refine start_ (n := 41) (S := fun w' => w'.cell? ⟨gb443, 0, none⟩ = some (.int .i64 t438) ∧ w'.cell? ⟨gb443, 1, none⟩ = some (.slice Ao30 t439.length co30) ∧ w'.cell? ⟨gb450, 0, none⟩ = some (.int .i64 t445) ∧ w'.cell? ⟨gb450, 1, none⟩ = some (.slice Ao42 t446.length co42) ∧ w'.cell? ⟨gb437, 0, none⟩ = some (.int .i64 t433) ∧ w'.cell? ⟨gb437, 1, none⟩ = some (.slice Ao25 t434.length co25) ∧ w'.cell? ⟨gb444, 0, none⟩ = some (.int .i64 5) ∧ w'.cell? ⟨gb444, 1, none⟩ = some (.int .i64 1) ∧ w'.cell? ⟨gb444, 2, none⟩ = some (.int .i64 0) ∧ w'.cell? ⟨gb444, 3, none⟩ = some (.int .i64 2) ∧ w'.cell? ⟨gb444, 4, none⟩ = some (.int .i64 0)) (ds := []) #[false, false, false, false, false, false, false, false, false, false, false, false, false, false, false, false, false, false, false, false, false, false, false, false, false, false, false, false, false, false, false, false, false, false, false, false, false, false, false, false, false] (by kernel_rfl) rfl rfl ⟨(blk_cell BK443.out 0).trans rfl, (blk_cell BK443.out 1).trans rfl, (blk_cell BK450.out 0).trans rfl, (blk_cell BK450.out 1).trans rfl, (blk_cell BK437.out 0).trans rfl, (blk_cell BK437.out 1).trans rfl, (blk_cell BK444.out 0).trans rfl, (blk_cell BK444.out 1).trans rfl, (blk_cell BK444.out 2).trans rfl, (blk_cell BK444.out 3).trans rfl, (blk_cell BK444.out 4).trans rfl⟩ (fun hHeld => ?_); refine with_tabW warrantorlaw14_lives.tab6 warrantorlaw14_lives.bits6 (fun HT_ HW_ => ?_)
 generalize w52.drew = w53 at HO432 HO436 HO441 HO448 HO454 BK437 BK443 BK444 BK450 BK456 HB hHeld ⊢
 refine pure_ (i := 0) (N := some 31) (v := ?_) (a' := ?_) #[true, false, false, false, false, false, false, false, false, false, false, false, false, false, false, false, false, false, false, false, false, false, false, false, false, false, false, false, false, false, false, false, false, false, false, false, false, false, false, false, false] rfl rfl (any_of HT_.out (by kernel_rfl)) (fun _ _ _ h => h) (Or.inl ⟨by rfl, ?_⟩) ?_ ?_
 rotate_left
 · intro w'
   go_simp
   with_reducible rfl
 rotate_left
 · exact AP_
 refine pure_ (i := 1) (N := some 32) (v := ?_) (a' := ?_) #[true, true, false, false, false, false, false, false, false, false, false, false, false, false, false, false, false, false, false, false, false, false, false, false, false, false, false, false, false, false, false, false, false, false, false, false, false, false, false, false, false] rfl rfl (any_of HT_.out (by kernel_rfl)) (fun _ _ _ h => h) (Or.inl ⟨by rfl, ?_⟩) ?_ ?_
 rotate_left
 · intro w'
   go_simp
   with_reducible rfl
 rotate_left
 · exact AP_
 refine pure_ (i := 2) (N := some 33) (v := ?_) (a' := ?_) #[true, true, true, false, false, false, false, false, false, false, false, false, false, false, false, false, false, false, false, false, false, false, false, false, false, false, false, false, false, false, false, false, false, false, false, false, false, false, false, false, false] rfl rfl (any_of HT_.out (by kernel_rfl)) (fun _ _ _ h => h) (Or.inl ⟨by rfl, ?_⟩) ?_ ?_
 rotate_left
 · intro w'
   go_simp
   with_reducible rfl
 rotate_left
 · exact AP_
 refine pure_ (i := 4) (N := some 35) (v := ?_) (a' := ?_) #[true, true, true, false, true, false, false, false, false, false, false, false, false, false, false, false, false, false, false, false, false, false, false, false, false, false, false, false, false, false, false, false, false, false, false, false, false, false, false, false, false] rfl rfl (any_of HT_.out (by kernel_rfl)) (fun _ _ _ h => h) (Or.inl ⟨by rfl, ?_⟩) ?_ ?_
 rotate_left
 · intro w'
   go_simp
   with_reducible rfl
 rotate_left
 · exact AP_
 refine take_ (i := 3) (N := some 34) (v := ?_) (a' := ?_) #[true, true, true, true, true, false, false, false, false, false, false, false, false, false, false, false, false, false, false, false, false, false, false, false, false, false, false, false, false, false, false, false, false, false, false, false, false, false, false, false, false] rfl rfl (take_ofW HT_.out HW_.out (by kernel_rfl)) (fun _ _ _ h => h) (Or.inl ⟨by rfl, ?_⟩) hHeld ?_ ?_
 rotate_left
 · rintro w' ⟨s0, s1, s2, s3, s4, s5, s6, s7, s8, s9, s10⟩
   go_simp
   with_reducible rfl
 rotate_left
 · exact AP_
 refine one_ (i := 5) (N := some 36) #[true, true, true, true, true, true, false, false, false, false, false, false, false, false, false, false, false, false, false, false, false, false, false, false, false, false, false, false, false, false, false, false, false, false, false, false, false, false, false, false, false] rfl rfl (one_of HT_.out (by kernel_rfl)) (by decide) (fun K hK => ?_)
 refine Kd.R_lit_step k39 _ 39 ?hg (N := 36) ?hd (xs := ([(⟨1, 4⟩ : S39)] : List (S39))) (inner := [.int .i64 1, .int .i64 4]) (ok := fun _ => True) (okp := fun _ => True) ?hr ?hp (fun _ hk => hk) trivial (Below.refl _ _) (Nat.le_refl _) (by simp) ?_; (case hd => rfl); (case hg => rfl); (case hr => first | (go_simp; done) | (go_simp; rfl)); (case hp => exact (Reps.c2 (show Kd.M k39 _ _ _ (⟨1, 4⟩ : S39) [.int .i64 1, .int .i64 4] from (k39_mkM _ _ _ (⟨1, 4⟩ : S39) )) (Reps.none _ _)))
 intro v458 w54 ho55 hb hg_ hnew_
 clear hg_ hnew_
 (first | rw [← Ny457.out] at ho55 | (simp only [Int.reduceToNat] at ho55; rw [← Ny457.out] at ho55))
 have n_ := a_ (Aside0.mk (Kd.R_elder' (rd_ HO432.out) (Kd.R_base ho55) hb)) (a_ (Aside0.mk (Kd.V_elder' (by (with_reducible repeat (first | apply Kd.V_alloc | apply Kd.V_drewN | apply Kd.V_drew)); exact HO436.out) (Kd.R_base ho55) hb)) (a_ (rb_ HO441 hb) (a_ (rb_ HO448 hb) (a_ (rb_ HO454 hb) (a_ (Aside0.mk (Kd.R_lower (Kd.R_new' ho55 (Kd.R_lt (rd_ HO432.out))) (below_size HB_))) (a_ (bb_ BK437 hb) (a_ (bb_ BK443 hb) (a_ (bb_ BK444 hb) (a_ (bb_ BK450 hb) (a_ (bb_ BK456 hb) (bs_ HB hb)))))))))))
 clear HO432 HO436 HO441 HO448 HO454 BK437 BK443 BK444 BK450 BK456 HB
 obtain ⟨HO432, HO436, HO441, HO448, HO454, HO459, BK437, BK443, BK444, BK450, BK456, HB⟩ := n_
 clear hb ho55
 obtain ⟨Ao56, co56, eo56⟩ := Kd.R_slice HO459.out
 (first | subst eo56 | (injection eo56 with f1_ f2_ f3_; have f4_ := f1_.symm; have f5_ := f3_.symm; clear f1_ f2_ f3_; subst f4_; subst f5_))
 refine hK.out _ _ ⟨(blk_cell BK443.out 0).trans rfl, (blk_cell BK443.out 1).trans rfl, (blk_cell BK450.out 0).trans rfl, (blk_cell BK450.out 1).trans rfl, (blk_cell BK437.out 0).trans rfl, (blk_cell BK437.out 1).trans rfl, (blk_cell BK444.out 0).trans rfl, (blk_cell BK444.out 1).trans rfl, (blk_cell BK444.out 2).trans rfl, (blk_cell BK444.out 3).trans rfl, (blk_cell BK444.out 4).trans rfl⟩ (fun hHeld => ?_)
 clear hK K
 refine norm_ (a' := ?_) ?_ ?_
 rotate_left
 · show Act.put _ (some 36) _ = _
   simp only [Act.put, List.setIfInBounds_toArray, List.set_cons_zero, List.set_cons_succ, i64_w, i32_w]
   rfl
 refine one_ (i := 6) (N := some 37) #[true, true, true, true, true, true, true, false, false, false, false, false, false, false, false, false, false, false, false, false, false, false, false, false, false, false, false, false, false, false, false, false, false, false, false, false, false, false, false, false, false] rfl rfl (one_of HT_.out (by kernel_rfl)) (by decide) (fun K hK => ?_)
 refine goes_ Try.func51 (by kernel_rfl) rfl #[.slice Ao56 y457.length co56] (by rfl) rfl rfl MP_ ?_
 with_reducible refine (warrantorref09_Box.calls k _ _ y457 t460 t461 _ ?side1 ?side2 A6.out).mono ?_
 (case side1 => repeat (first | exact (Kd.R_reads' HO459.out).2.2 | (with_reducible refine Kd.C_alloc ?_ _) | (with_reducible refine Kd.C_drewN ?_ _) | (with_reducible refine Kd.C_drew ?_)))
 (case side2 => exact (Kd.R_reads' HO459.out).2.1)
 rintro e w57 ⟨v462, rfl, ho0, hb⟩
 refine ⟨_, rfl, ?_⟩
 have n_ := a_ (rb_ HO432 hb) (a_ (Aside0.mk (Kd.V_below (by (with_reducible repeat (first | apply Kd.V_alloc | apply Kd.V_drewN | apply Kd.V_drew)); exact HO436.out) hb)) (a_ (rb_ HO441 hb) (a_ (rb_ HO448 hb) (a_ (rb_ HO454 hb) (a_ (rb_ HO459 hb) (a_ (Aside0.mk (Kd.V_lower (Kd.V_mono (ok' := fun k_ => some k_ ≠ (.slice Ao21 y430.length co21 : Value).ownBlock ∧ some k_ ≠ (.slice Ao30 t439.length co30 : Value).ownBlock ∧ some k_ ≠ (.slice Ao42 t446.length co42 : Value).ownBlock ∧ some k_ ≠ (.slice Ao51 t452.length co51 : Value).ownBlock ∧ some k_ ≠ (.slice Ao56 y457.length co56 : Value).ownBlock ∧ k_ ≠ gb437 ∧ k_ ≠ gb443 ∧ k_ ≠ gb444 ∧ k_ ≠ gb450 ∧ k_ ≠ gb456) ho0 (fun k_ hk_ => ⟨(Kd.fresh' (Kd.R_lt (rd_ HO432.out)) k_ hk_), (Kd.fresh' (Kd.R_lt (rd_ HO441.out)) k_ hk_), (Kd.fresh' (Kd.R_lt (rd_ HO448.out)) k_ hk_), (Kd.fresh' (Kd.R_lt (rd_ HO454.out)) k_ hk_), (Kd.fresh' (Kd.R_lt (rd_ HO459.out)) k_ hk_), (Kd.freshB (g := gb437) (o := .cells #[.int .i64 t433, .slice Ao25 t434.length co25] 24 (0, 0)) (bk_ BK437.out) k_ hk_), (Kd.freshB (g := gb443) (o := .cells #[.int .i64 t438, .slice Ao30 t439.length co30] 24 (0, 0)) (bk_ BK443.out) k_ hk_), (Kd.freshB (g := gb444) (o := .cells #[.int .i64 5, .int .i64 1, .int .i64 0, .int .i64 2, .int .i64 0] 26 (0, 0)) (bk_ BK444.out) k_ hk_), (Kd.freshB (g := gb450) (o := .cells #[.int .i64 t445, .slice Ao42 t446.length co42] 24 (0, 0)) (bk_ BK450.out) k_ hk_), (Kd.freshB (g := gb456) (o := .cells #[.int .i64 t451, .slice Ao51 t452.length co51] 24 (0, 0)) (bk_ BK456.out) k_ hk_)⟩)) (below_size HB_))) (a_ (bb_ BK437 hb) (a_ (bb_ BK443 hb) (a_ (bb_ BK444 hb) (a_ (bb_ BK450 hb) (a_ (bb_ BK456 hb) (bs_ HB hb))))))))))))
 clear HO432 HO436 HO441 HO448 HO454 HO459 BK437 BK443 BK444 BK450 BK456 HB
 obtain ⟨HO432, HO436, HO441, HO448, HO454, HO459, HO463, BK437, BK443, BK444, BK450, BK456, HB⟩ := n_
 (try clear hb)
 (try clear hb2)
 (try clear hk)
 (try clear hi)
 (try clear ho0)
 obtain ⟨Ao58, co58, eo58⟩ := Kd.V_slice HO463.out
 (first | subst eo58 | (injection eo58 with f1_ f2_ f3_; have f4_ := f1_.symm; have f5_ := f3_.symm; clear f1_ f2_ f3_; subst f4_; subst f5_))
 refine hK.out _ _ ⟨(blk_cell BK443.out 0).trans rfl, (blk_cell BK443.out 1).trans rfl, (blk_cell BK450.out 0).trans rfl, (blk_cell BK450.out 1).trans rfl, (blk_cell BK437.out 0).trans rfl, (blk_cell BK437.out 1).trans rfl, (blk_cell BK444.out 0).trans rfl, (blk_cell BK444.out 1).trans rfl, (blk_cell BK444.out 2).trans rfl, (blk_cell BK444.out 3).trans rfl, (blk_cell BK444.out 4).trans rfl⟩ (fun hHeld => ?_)
 clear hK K
 refine norm_ (a' := ?_) ?_ ?_
 rotate_left
 · show Act.put _ (some 37) _ = _
   simp only [Act.put, List.setIfInBounds_toArray, List.set_cons_zero, List.set_cons_succ, i64_w, i32_w]
   rfl
 refine one_ (i := 7) (N := some 38) #[true, true, true, true, true, true, true, true, false, false, false, false, false, false, false, false, false, false, false, false, false, false, false, false, false, false, false, false, false, false, false, false, false, false, false, false, false, false, false, false, false] rfl rfl (one_of HT_.out (by kernel_rfl)) (by decide) (fun K hK => ?_)
 refine goes_ Try.func17 (by kernel_rfl) rfl #[.agg #[.int .i64 t438, .slice Ao30 t439.length co30], .agg #[.int .i64 t460, .slice Ao58 t461.length co58]] (by rfl) rfl rfl MP_ ?_
 with_reducible refine (warrantorref08_Same.calls k t438 _ _ t439 t460 _ _ t461 true _ ?side1 ?side2 ?side3 ?side4 A7.out).mono ?_
 (case side1 => repeat (first | exact (Kd.R_reads' HO441.out).2.2 | (with_reducible refine Kd.C_alloc ?_ _) | (with_reducible refine Kd.C_drewN ?_ _) | (with_reducible refine Kd.C_drew ?_)))
 (case side2 => exact (Kd.R_reads' HO441.out).2.1)
 (case side3 => repeat (first | exact (Kd.V_reads' HO463.out).2.2 | (with_reducible refine Kd.C_alloc ?_ _) | (with_reducible refine Kd.C_drewN ?_ _) | (with_reducible refine Kd.C_drew ?_)))
 (case side4 => exact (Kd.V_reads' HO463.out).2.1)
 rintro e w59 ⟨rfl, hb⟩
 refine ⟨_, rfl, ?_⟩
 have n_ := a_ (rb_ HO432 hb) (a_ (Aside0.mk (Kd.V_below (by (with_reducible repeat (first | apply Kd.V_alloc | apply Kd.V_drewN | apply Kd.V_drew)); exact HO436.out) hb)) (a_ (rb_ HO441 hb) (a_ (rb_ HO448 hb) (a_ (rb_ HO454 hb) (a_ (rb_ HO459 hb) (a_ (Aside0.mk (Kd.V_below (by (with_reducible repeat (first | apply Kd.V_alloc | apply Kd.V_drewN | apply Kd.V_drew)); exact HO463.out) hb)) (a_ (bb_ BK437 hb) (a_ (bb_ BK443 hb) (a_ (bb_ BK444 hb) (a_ (bb_ BK450 hb) (a_ (bb_ BK456 hb) (bs_ HB hb))))))))))))
 clear HO432 HO436 HO441 HO448 HO454 HO459 HO463 BK437 BK443 BK444 BK450 BK456 HB
 obtain ⟨HO432, HO436, HO441, HO448, HO454, HO459, HO463, BK437, BK443, BK444, BK450, BK456, HB⟩ := n_
 (try clear hb)
 (try clear hb2)
 (try clear hk)
 (try clear hi)
 refine hK.out _ _ ⟨(blk_cell BK443.out 0).trans rfl, (blk_cell BK443.out 1).trans rfl, (blk_cell BK450.out 0).trans rfl, (blk_cell BK450.out 1).trans rfl, (blk_cell BK437.out 0).trans rfl, (blk_cell BK437.out 1).trans rfl, (blk_cell BK444.out 0).trans rfl, (blk_cell BK444.out 1).trans rfl, (blk_cell BK444.out 2).trans rfl, (blk_cell BK444.out 3).trans rfl, (blk_cell BK444.out 4).trans rfl⟩ (fun hHeld => ?_)
 clear hK K
 refine norm_ (a' := ?_) ?_ ?_
 rotate_left
 · show Act.put _ (some 38) _ = _
   simp only [Act.put, List.setIfInBounds_toArray, List.set_cons_zero, List.set_cons_succ, i64_w, i32_w]
   rfl
 refine pure_ (i := 8) (N := some 39) (v := ?_) (a' := ?_) #[true, true, true, true, true, true, true, true, true, false, false, false, false, false, false, false, false, false, false, false, false, false, false, false, false, false, false, false, false, false, false, false, false, false, false, false, false, false, false, false, false] rfl rfl (any_of HT_.out (by kernel_rfl)) (fun _ _ _ h => h) (Or.inl ⟨by rfl, ?_⟩) ?_ ?_
 rotate_left
 · intro w'
   go_simp
   with_reducible rfl
 rotate_left
 · exact AP_
 refine pure_ (i := 9) (N := some 40) (v := ?_) (a' := ?_) #[true, true, true, true, true, true, true, true, true, true, false, false, false, false, false, false, false, false, false, false, false, false, false, false, false, false, false, false, false, false, false, false, false, false, false, false, false, false, false, false, false] rfl rfl (any_of HT_.out (by kernel_rfl)) (fun _ _ _ h => h) (Or.inl ⟨by rfl, ?_⟩) ?_ ?_
 rotate_left
 · intro w'
   go_simp
   with_reducible rfl
 rotate_left
 · exact AP_
 refine pure_ (i := 10) (N := some 41) (v := ?_) (a' := ?_) #[true, true, true, true, true, true, true, true, true, true, true, false, false, false, false, false, false, false, false, false, false, false, false, false, false, false, false, false, false, false, false, false, false, false, false, false, false, false, false, false, false] rfl rfl (any_of HT_.out (by kernel_rfl)) (fun _ _ _ h => h) (Or.inl ⟨by rfl, ?_⟩) ?_ ?_
 rotate_left
 · intro w'
   go_simp
   with_reducible rfl
 rotate_left
 · exact AP_
 refine pure_ (i := 11) (N := some 42) (v := ?_) (a' := ?_) #[true, true, true, true, true, true, true, true, true, true, true, true, false, false, false, false, false, false, false, false, false, false, false, false, false, false, false, false, false, false, false, false, false, false, false, false, false, false, false, false, false] rfl rfl (any_of HT_.out (by kernel_rfl)) (fun _ _ _ h => h) (Or.inl ⟨by rfl, ?_⟩) ?_ ?_
 rotate_left
 · intro w'
   go_simp
   with_reducible rfl
 rotate_left
 · exact AP_
 refine pure_ (i := 12) (N := some 43) (v := ?_) (a' := ?_) #[true, true, true, true, true, true, true, true, true, true, true, true, true, false, false, false, false, false, false, false, false, false, false, false, false, false, false, false, false, false, false, false, false, false, false, false, false, false, false, false, false] rfl rfl (any_of HT_.out (by kernel_rfl)) (fun _ _ _ h => h) (Or.inl ⟨by rfl, ?_⟩) ?_ ?_
 rotate_left
 · intro w'
   go_simp
   with_reducible rfl
 rotate_left
 · exact AP_
 refine pure_ (i := 13) (N := some 44) (v := ?_) (a' := ?_) #[true, true, true, true, true, true, true, true, true, true, true, true, true, true, false, false, false, false, false, false, false, false, false, false, false, false, false, false, false, false, false, false, false, false, false, false, false, false, false, false, false] rfl rfl (any_of HT_.out (by kernel_rfl)) (fun _ _ _ h => h) (Or.inl ⟨by rfl, ?_⟩) ?_ ?_
 rotate_left
 · intro w'
   go_simp
   with_reducible rfl
 rotate_left
 · exact AP_
 refine pure_ (i := 15) (N := some 46) (v := ?_) (a' := ?_) #[true, true, true, true, true, true, true, true, true, true, true, true, true, true, false, true, false, false, false, false, false, false, false, false, false, false, false, false, false, false, false, false, false, false, false, false, false, false, false, false, false] rfl rfl (any_of HT_.out (by kernel_rfl)) (fun _ _ _ h => h) (Or.inl ⟨by rfl, ?_⟩) ?_ ?_
 rotate_left
 · intro w'
   go_simp
   with_reducible rfl
 rotate_left
 · exact AP_
 refine take_ (i := 14) (N := some 45) (v := ?_) (a' := ?_) #[true, true, true, true, true, true, true, true, true, true, true, true, true, true, true, true, false, false, false, false, false, false, false, false, false, false, false, false, false, false, false, false, false, false, false, false, false, false, false, false, false] rfl rfl (take_ofW HT_.out HW_.out (by kernel_rfl)) (fun _ _ _ h => h) (Or.inl ⟨by rfl, ?_⟩) hHeld ?_ ?_
 rotate_left
 · rintro w' ⟨s0, s1, s2, s3, s4, s5, s6, s7, s8, s9, s10⟩
   go_simp
   with_reducible rfl
 rotate_left
 · exact AP_
 refine one_ (i := 16) (N := some 47) #[true, true, true, true, true, true, true, true, true, true, true, true, true, true, true, true, true, false, false, false, false, false, false, false, false, false, false, false, false, false, false, false, false, false, false, false, false, false, false, false, false] rfl rfl (one_of HT_.out (by kernel_rfl)) (by decide) (fun K hK => ?_)
 refine Kd.R_lit_step k39 _ 39 ?hg (N := 47) ?hd (xs := ([(⟨3, 3⟩ : S39)] : List (S39))) (inner := [.int .i64 3, .int .i64 3]) (ok := fun _ => True) (okp := fun _ => True) ?hr ?hp (fun _ hk => hk) trivial (Below.refl _ _) (Nat.le_refl _) (by simp) ?_; (case hd => rfl); (case hg => rfl); (case hr => first | (go_simp; done) | (go_simp; rfl)); (case hp => exact (Reps.c2 (show Kd.M k39 _ _ _ (⟨3, 3⟩ : S39) [.int .i64 3, .int .i64 3] from (k39_mkM _ _ _ (⟨3, 3⟩ : S39) )) (Reps.none _ _)))
 intro v466 w60 ho61 hb hg_ hnew_
 clear hg_ hnew_
 (first | rw [← Ny465.out] at ho61 | (simp only [Int.reduceToNat] at ho61; rw [← Ny465.out] at ho61))
 have n_ := a_ (Aside0.mk (Kd.R_elder' (rd_ HO432.out) (Kd.R_base ho61) hb)) (a_ (Aside0.mk (Kd.V_elder' (by (with_reducible repeat (first | apply Kd.V_alloc | apply Kd.V_drewN | apply Kd.V_drew)); exact HO436.out) (Kd.R_base ho61) hb)) (a_ (rb_ HO441 hb) (a_ (rb_ HO448 hb) (a_ (rb_ HO454 hb) (a_ (Aside0.mk (Kd.R_elder' (rd_ HO459.out) (Kd.R_base ho61) hb)) (a_ (Aside0.mk (Kd.V_elder' (by (with_reducible repeat (first | apply Kd.V_alloc | apply Kd.V_drewN | apply Kd.V_drew)); exact HO463.out) (Kd.R_base ho61) hb)) (a_ (Aside0.mk (Kd.R_lower (Kd.R_new' (Kd.R_new' ho61 (Kd.R_lt (rd_ HO432.out))) (Kd.R_lt (rd_ HO459.out))) (below_size HB_))) (a_ (bb_ BK437 hb) (a_ (bb_ BK443 hb) (a_ (bb_ BK444 hb) (a_ (bb_ BK450 hb) (a_ (bb_ BK456 hb) (bs_ HB hb)))))))))))))
 clear HO432 HO436 HO441 HO448 HO454 HO459 HO463 BK437 BK443 BK444 BK450 BK456 HB
 obtain ⟨HO432, HO436, HO441, HO448, HO454, HO459, HO463, HO467, BK437, BK443, BK444, BK450, BK456, HB⟩ := n_
 clear hb ho61
 obtain ⟨Ao62, co62, eo62⟩ := Kd.R_slice HO467.out
 (first | subst eo62 | (injection eo62 with f1_ f2_ f3_; have f4_ := f1_.symm; have f5_ := f3_.symm; clear f1_ f2_ f3_; subst f4_; subst f5_))
 refine hK.out _ _ ⟨(blk_cell BK443.out 0).trans rfl, (blk_cell BK443.out 1).trans rfl, (blk_cell BK450.out 0).trans rfl, (blk_cell BK450.out 1).trans rfl, (blk_cell BK437.out 0).trans rfl, (blk_cell BK437.out 1).trans rfl, (blk_cell BK444.out 0).trans rfl, (blk_cell BK444.out 1).trans rfl, (blk_cell BK444.out 2).trans rfl, (blk_cell BK444.out 3).trans rfl, (blk_cell BK444.out 4).trans rfl⟩ (fun hHeld => ?_)
 clear hK K
 refine norm_ (a' := ?_) ?_ ?_
 rotate_left
 · show Act.put _ (some 47) _ = _
   simp only [Act.put, List.setIfInBounds_toArray, List.set_cons_zero, List.set_cons_succ, i64_w, i32_w]
   rfl
 refine one_ (i := 17) (N := some 48) #[true, true, true, true, true, true, true, true, true, true, true, true, true, true, true, true, true, true, false, false, false, false, false, false, false, false, false, false, false, false, false, false, false, false, false, false, false, false, false, false, false] rfl rfl (one_of HT_.out (by kernel_rfl)) (by decide) (fun K hK => ?_)
 refine goes_ Try.func51 (by kernel_rfl) rfl #[.slice Ao62 y465.length co62] (by rfl) rfl rfl MP_ ?_
 with_reducible refine (warrantorref09_Box.calls k _ _ y465 t468 t469 _ ?side1 ?side2 A10.out).mono ?_
 (case side1 => repeat (first | exact (Kd.R_reads' HO467.out).2.2 | (with_reducible refine Kd.C_alloc ?_ _) | (with_reducible refine Kd.C_drewN ?_ _) | (with_reducible refine Kd.C_drew ?_)))
 (case side2 => exact (Kd.R_reads' HO467.out).2.1)
 rintro e w63 ⟨v470, rfl, ho0, hb⟩
 refine ⟨_, rfl, ?_⟩
 have n_ := a_ (rb_ HO432 hb) (a_ (Aside0.mk (Kd.V_below (by (with_reducible repeat (first | apply Kd.V_alloc | apply Kd.V_drewN | apply Kd.V_drew)); exact HO436.out) hb)) (a_ (rb_ HO441 hb) (a_ (rb_ HO448 hb) (a_ (rb_ HO454 hb) (a_ (rb_ HO459 hb) (a_ (Aside0.mk (Kd.V_below (by (with_reducible repeat (first | apply Kd.V_alloc | apply Kd.V_drewN | apply Kd.V_drew)); exact HO463.out) hb)) (a_ (rb_ HO467 hb) (a_ (Aside0.mk (Kd.V_lower (Kd.V_mono (ok' := fun k_ => some k_ ≠ (.slice Ao21 y430.length co21 : Value).ownBlock ∧ some k_ ≠ (.slice Ao30 t439.length co30 : Value).ownBlock ∧ some k_ ≠ (.slice Ao42 t446.length co42 : Value).ownBlock ∧ some k_ ≠ (.slice Ao51 t452.length co51 : Value).ownBlock ∧ some k_ ≠ (.slice Ao56 y457.length co56 : Value).ownBlock ∧ some k_ ≠ (.slice Ao62 y465.length co62 : Value).ownBlock ∧ k_ ≠ gb437 ∧ k_ ≠ gb443 ∧ k_ ≠ gb444 ∧ k_ ≠ gb450 ∧ k_ ≠ gb456) ho0 (fun k_ hk_ => ⟨(Kd.fresh' (Kd.R_lt (rd_ HO432.out)) k_ hk_), (Kd.fresh' (Kd.R_lt (rd_ HO441.out)) k_ hk_), (Kd.fresh' (Kd.R_lt (rd_ HO448.out)) k_ hk_), (Kd.fresh' (Kd.R_lt (rd_ HO454.out)) k_ hk_), (Kd.fresh' (Kd.R_lt (rd_ HO459.out)) k_ hk_), (Kd.fresh' (Kd.R_lt (rd_ HO467.out)) k_ hk_), (Kd.freshB (g := gb437) (o := .cells #[.int .i64 t433, .slice Ao25 t434.length co25] 24 (0, 0)) (bk_ BK437.out) k_ hk_), (Kd.freshB (g := gb443) (o := .cells #[.int .i64 t438, .slice Ao30 t439.length co30] 24 (0, 0)) (bk_ BK443.out) k_ hk_), (Kd.freshB (g := gb444) (o := .cells #[.int .i64 5, .int .i64 1, .int .i64 0, .int .i64 2, .int .i64 0] 26 (0, 0)) (bk_ BK444.out) k_ hk_), (Kd.freshB (g := gb450) (o := .cells #[.int .i64 t445, .slice Ao42 t446.length co42] 24 (0, 0)) (bk_ BK450.out) k_ hk_), (Kd.freshB (g := gb456) (o := .cells #[.int .i64 t451, .slice Ao51 t452.length co51] 24 (0, 0)) (bk_ BK456.out) k_ hk_)⟩)) (below_size HB_))) (a_ (bb_ BK437 hb) (a_ (bb_ BK443 hb) (a_ (bb_ BK444 hb) (a_ (bb_ BK450 hb) (a_ (bb_ BK456 hb) (bs_ HB hb))))))))))))))
 clear HO432 HO436 HO441 HO448 HO454 HO459 HO463 HO467 BK437 BK443 BK444 BK450 BK456 HB
 obtain ⟨HO432, HO436, HO441, HO448, HO454, HO459, HO463, HO467, HO471, BK437, BK443, BK444, BK450, BK456, HB⟩ := n_
 (try clear hb)
 (try clear hb2)
 (try clear hk)
 (try clear hi)
 (try clear ho0)
 obtain ⟨Ao64, co64, eo64⟩ := Kd.V_slice HO471.out
 (first | subst eo64 | (injection eo64 with f1_ f2_ f3_; have f4_ := f1_.symm; have f5_ := f3_.symm; clear f1_ f2_ f3_; subst f4_; subst f5_))
 refine hK.out _ _ ⟨(blk_cell BK443.out 0).trans rfl, (blk_cell BK443.out 1).trans rfl, (blk_cell BK450.out 0).trans rfl, (blk_cell BK450.out 1).trans rfl, (blk_cell BK437.out 0).trans rfl, (blk_cell BK437.out 1).trans rfl, (blk_cell BK444.out 0).trans rfl, (blk_cell BK444.out 1).trans rfl, (blk_cell BK444.out 2).trans rfl, (blk_cell BK444.out 3).trans rfl, (blk_cell BK444.out 4).trans rfl⟩ (fun hHeld => ?_)
 clear hK K
 refine norm_ (a' := ?_) ?_ ?_
 rotate_left
 · show Act.put _ (some 48) _ = _
   simp only [Act.put, List.setIfInBounds_toArray, List.set_cons_zero, List.set_cons_succ, i64_w, i32_w]
   rfl
 refine one_ (i := 18) (N := some 49) #[true, true, true, true, true, true, true, true, true, true, true, true, true, true, true, true, true, true, true, false, false, false, false, false, false, false, false, false, false, false, false, false, false, false, false, false, false, false, false, false, false] rfl rfl (one_of HT_.out (by kernel_rfl)) (by decide) (fun K hK => ?_)
 refine goes_ Try.func17 (by kernel_rfl) rfl #[.agg #[.int .i64 t445, .slice Ao42 t446.length co42], .agg #[.int .i64 t468, .slice Ao64 t469.length co64]] (by rfl) rfl rfl MP_ ?_
 with_reducible refine (warrantorref08_Same.calls k t445 _ _ t446 t468 _ _ t469 true _ ?side1 ?side2 ?side3 ?side4 A11.out).mono ?_
 (case side1 => repeat (first | exact (Kd.R_reads' HO448.out).2.2 | (with_reducible refine Kd.C_alloc ?_ _) | (with_reducible refine Kd.C_drewN ?_ _) | (with_reducible refine Kd.C_drew ?_)))
 (case side2 => exact (Kd.R_reads' HO448.out).2.1)
 (case side3 => repeat (first | exact (Kd.V_reads' HO471.out).2.2 | (with_reducible refine Kd.C_alloc ?_ _) | (with_reducible refine Kd.C_drewN ?_ _) | (with_reducible refine Kd.C_drew ?_)))
 (case side4 => exact (Kd.V_reads' HO471.out).2.1)
 rintro e w65 ⟨rfl, hb⟩
 refine ⟨_, rfl, ?_⟩
 have n_ := a_ (rb_ HO432 hb) (a_ (Aside0.mk (Kd.V_below (by (with_reducible repeat (first | apply Kd.V_alloc | apply Kd.V_drewN | apply Kd.V_drew)); exact HO436.out) hb)) (a_ (rb_ HO441 hb) (a_ (rb_ HO448 hb) (a_ (rb_ HO454 hb) (a_ (rb_ HO459 hb) (a_ (Aside0.mk (Kd.V_below (by (with_reducible repeat (first | apply Kd.V_alloc | apply Kd.V_drewN | apply Kd.V_drew)); exact HO463.out) hb)) (a_ (rb_ HO467 hb) (a_ (Aside0.mk (Kd.V_below (by (with_reducible repeat (first | apply Kd.V_alloc | apply Kd.V_drewN | apply Kd.V_drew)); exact HO471.out) hb)) (a_ (bb_ BK437 hb) (a_ (bb_ BK443 hb) (a_ (bb_ BK444 hb) (a_ (bb_ BK450 hb) (a_ (bb_ BK456 hb) (bs_ HB hb))))))))))))))
 clear HO432 HO436 HO441 HO448 HO454 HO459 HO463 HO467 HO471 BK437 BK443 BK444 BK450 BK456 HB
 obtain ⟨HO432, HO436, HO441, HO448, HO454, HO459, HO463, HO467, HO471, BK437, BK443, BK444, BK450, BK456, HB⟩ := n_
 (try clear hb)
 (try clear hb2)
 (try clear hk)
 (try clear hi)
 refine hK.out _ _ ⟨(blk_cell BK443.out 0).trans rfl, (blk_cell BK443.out 1).trans rfl, (blk_cell BK450.out 0).trans rfl, (blk_cell BK450.out 1).trans rfl, (blk_cell BK437.out 0).trans rfl, (blk_cell BK437.out 1).trans rfl, (blk_cell BK444.out 0).trans rfl, (blk_cell BK444.out 1).trans rfl, (blk_cell BK444.out 2).trans rfl, (blk_cell BK444.out 3).trans rfl, (blk_cell BK444.out 4).trans rfl⟩ (fun hHeld => ?_)
 clear hK K
 refine norm_ (a' := ?_) ?_ ?_
 rotate_left
 · show Act.put _ (some 49) _ = _
   simp only [Act.put, List.setIfInBounds_toArray, List.set_cons_zero, List.set_cons_succ, i64_w, i32_w]
   rfl
 refine pure_ (i := 19) (N := some 50) (v := ?_) (a' := ?_) #[true, true, true, true, true, true, true, true, true, true, true, true, true, true, true, true, true, true, true, true, false, false, false, false, false, false, false, false, false, false, false, false, false, false, false, false, false, false, false, false, false] rfl rfl (any_of HT_.out (by kernel_rfl)) (fun _ _ _ h => h) (Or.inl ⟨by rfl, ?_⟩) ?_ ?_
 rotate_left
 · intro w'
   go_simp
   with_reducible rfl
 rotate_left
 · exact AP_
 refine pure_ (i := 20) (N := some 51) (v := ?_) (a' := ?_) #[true, true, true, true, true, true, true, true, true, true, true, true, true, true, true, true, true, true, true, true, true, false, false, false, false, false, false, false, false, false, false, false, false, false, false, false, false, false, false, false, false] rfl rfl (any_of HT_.out (by kernel_rfl)) (fun _ _ _ h => h) (Or.inl ⟨by rfl, ?_⟩) ?_ ?_
 rotate_left
 · intro w'
   go_simp
   with_reducible rfl
 rotate_left
 · exact AP_
 refine pure_ (i := 21) (N := some 52) (v := ?_) (a' := ?_) #[true, true, true, true, true, true, true, true, true, true, true, true, true, true, true, true, true, true, true, true, true, true, false, false, false, false, false, false, false, false, false, false, false, false, false, false, false, false, false, false, false] rfl rfl (any_of HT_.out (by kernel_rfl)) (fun _ _ _ h => h) (Or.inl ⟨by rfl, ?_⟩) ?_ ?_
 rotate_left
 · intro w'
   go_simp
   with_reducible rfl
 rotate_left
 · exact AP_
 refine pure_ (i := 22) (N := some 53) (v := ?_) (a' := ?_) #[true, true, true, true, true, true, true, true, true, true, true, true, true, true, true, true, true, true, true, true, true, true, true, false, false, false, false, false, false, false, false, false, false, false, false, false, false, false, false, false, false] rfl rfl (any_of HT_.out (by kernel_rfl)) (fun _ _ _ h => h) (Or.inl ⟨by rfl, ?_⟩) ?_ ?_
 rotate_left
 · intro w'
   go_simp
   with_reducible rfl
 rotate_left
 · exact AP_
 refine pure_ (i := 23) (N := some 54) (v := ?_) (a' := ?_) #[true, true, true, true, true, true, true, true, true, true, true, true, true, true, true, true, true, true, true, true, true, true, true, true, false, false, false, false, false, false, false, false, false, false, false, false, false, false, false, false, false] rfl rfl (any_of HT_.out (by kernel_rfl)) (fun _ _ _ h => h) (Or.inl ⟨by rfl, ?_⟩) ?_ ?_
 rotate_left
 · intro w'
   go_simp
   with_reducible rfl
 rotate_left
 · exact AP_
 refine pure_ (i := 24) (N := some 55) (v := ?_) (a' := ?_) #[true, true, true, true, true, true, true, true, true, true, true, true, true, true, true, true, true, true, true, true, true, true, true, true, true, false, false, false, false, false, false, false, false, false, false, false, false, false, false, false, false] rfl rfl (any_of HT_.out (by kernel_rfl)) (fun _ _ _ h => h) (Or.inl ⟨by rfl, ?_⟩) ?_ ?_
 rotate_left
 · intro w'
   go_simp
   with_reducible rfl
 rotate_left
 · exact AP_
 refine take_ (i := 25) (N := some 56) (v := ?_) (a' := ?_) #[true, true, true, true, true, true, true, true, true, true, true, true, true, true, true, true, true, true, true, true, true, true, true, true, true, true, false, false, false, false, false, false, false, false, false, false, false, false, false, false, false] rfl rfl (take_ofW HT_.out HW_.out (by kernel_rfl)) (fun _ _ _ h => h) (Or.inl ⟨by rfl, ?_⟩) hHeld ?_ ?_
 rotate_left
 · rintro w' ⟨s0, s1, s2, s3, s4, s5, s6, s7, s8, s9, s10⟩
   go_simp
   with_reducible rfl
 rotate_left
 · exact AP_
 refine take_ (i := 26) (N := some 57) (v := ?_) (a' := ?_) #[true, true, true, true, true, true, true, true, true, true, true, true, true, true, true, true, true, true, true, true, true, true, true, true, true, true, true, false, false, false, false, false, false, false, false, false, false, false, false, false, false] rfl rfl (take_ofW HT_.out HW_.out (by kernel_rfl)) (fun _ _ _ h => h) (Or.inl ⟨by rfl, ?_⟩) hHeld ?_ ?_
 rotate_left
 · rintro w' ⟨s0, s1, s2, s3, s4, s5, s6, s7, s8, s9, s10⟩
   go_simp
   with_reducible rfl
 rotate_left
 · exact AP_
 refine one_ (i := 27) (N := some 58) #[true, true, true, true, true, true, true, true, true, true, true, true, true, true, true, true, true, true, true, true, true, true, true, true, true, true, true, true, false, false, false, false, false, false, false, false, false, false, false, false, false] rfl rfl (one_of HT_.out (by kernel_rfl)) (by decide) (fun K hK => ?_)
 refine goes_ Try.func18 (by kernel_rfl) rfl #[.agg #[.int .i64 t433, .slice Ao25 t434.length co25], .agg #[.int .i64 5, .int .i64 1, .int .i64 0, .int .i64 2, .int .i64 0]] (by rfl) rfl rfl MP_ ?_
 with_reducible refine (post_May.calls k t433 _ _ t434 5 1 0 2 0 true _ ?side1 ?side2 A14.out).mono ?_
 (case side1 => repeat (first | exact (Kd.V_reads' HO436.out).2.2 | (with_reducible refine Kd.C_alloc ?_ _) | (with_reducible refine Kd.C_drewN ?_ _) | (with_reducible refine Kd.C_drew ?_)))
 (case side2 => exact (Kd.V_reads' HO436.out).2.1)
 rintro e w66 ⟨rfl, hb⟩
 refine ⟨_, rfl, ?_⟩
 have n_ := a_ (rb_ HO432 hb) (a_ (Aside0.mk (Kd.V_below (by (with_reducible repeat (first | apply Kd.V_alloc | apply Kd.V_drewN | apply Kd.V_drew)); exact HO436.out) hb)) (a_ (rb_ HO441 hb) (a_ (rb_ HO448 hb) (a_ (rb_ HO454 hb) (a_ (rb_ HO459 hb) (a_ (Aside0.mk (Kd.V_below (by (with_reducible repeat (first | apply Kd.V_alloc | apply Kd.V_drewN | apply Kd.V_drew)); exact HO463.out) hb)) (a_ (rb_ HO467 hb) (a_ (Aside0.mk (Kd.V_below (by (with_reducible repeat (first | apply Kd.V_alloc | apply Kd.V_drewN | apply Kd.V_drew)); exact HO471.out) hb)) (a_ (bb_ BK437 hb) (a_ (bb_ BK443 hb) (a_ (bb_ BK444 hb) (a_ (bb_ BK450 hb) (a_ (bb_ BK456 hb) (bs_ HB hb))))))))))))))
 clear HO432 HO436 HO441 HO448 HO454 HO459 HO463 HO467 HO471 BK437 BK443 BK444 BK450 BK456 HB
 obtain ⟨HO432, HO436, HO441, HO448, HO454, HO459, HO463, HO467, HO471, BK437, BK443, BK444, BK450, BK456, HB⟩ := n_
 (try clear hb)
 (try clear hb2)
 (try clear hk)
 (try clear hi)
 refine hK.out _ _ ⟨(blk_cell BK443.out 0).trans rfl, (blk_cell BK443.out 1).trans rfl, (blk_cell BK450.out 0).trans rfl, (blk_cell BK450.out 1).trans rfl, (blk_cell BK437.out 0).trans rfl, (blk_cell BK437.out 1).trans rfl, (blk_cell BK444.out 0).trans rfl, (blk_cell BK444.out 1).trans rfl, (blk_cell BK444.out 2).trans rfl, (blk_cell BK444.out 3).trans rfl, (blk_cell BK444.out 4).trans rfl⟩ (fun hHeld => ?_)
 clear hK K
 refine norm_ (a' := ?_) ?_ ?_
 rotate_left
 · show Act.put _ (some 58) _ = _
   simp only [Act.put, List.setIfInBounds_toArray, List.set_cons_zero, List.set_cons_succ, i64_w, i32_w]
   rfl
 refine pure_ (i := 28) (N := some 59) (v := ?_) (a' := ?_) #[true, true, true, true, true, true, true, true, true, true, true, true, true, true, true, true, true, true, true, true, true, true, true, true, true, true, true, true, true, false, false, false, false, false, false, false, false, false, false, false, false] rfl rfl (any_of HT_.out (by kernel_rfl)) (fun _ _ _ h => h) (Or.inl ⟨by rfl, ?_⟩) ?_ ?_
 rotate_left
 · intro w'
   go_simp
   with_reducible rfl
 rotate_left
 · exact AP_
 refine pure_ (i := 29) (N := some 60) (v := ?_) (a' := ?_) #[true, true, true, true, true, true, true, true, true, true, true, true, true, true, true, true, true, true, true, true, true, true, true, true, true, true, true, true, true, true, false, false, false, false, false, false, false, false, false, false, false] rfl rfl (any_of HT_.out (by kernel_rfl)) (fun _ _ _ h => h) (Or.inl ⟨by rfl, ?_⟩) ?_ ?_
 rotate_left
 · intro w'
   go_simp
   with_reducible rfl
 rotate_left
 · exact AP_
 refine take_ (i := 30) (N := some 61) (v := ?_) (a' := ?_) #[true, true, true, true, true, true, true, true, true, true, true, true, true, true, true, true, true, true, true, true, true, true, true, true, true, true, true, true, true, true, true, false, false, false, false, false, false, false, false, false, false] rfl rfl (take_ofW HT_.out HW_.out (by kernel_rfl)) (fun _ _ _ h => h) (Or.inl ⟨by rfl, ?_⟩) hHeld ?_ ?_
 rotate_left
 · rintro w' ⟨s0, s1, s2, s3, s4, s5, s6, s7, s8, s9, s10⟩
   go_simp
   with_reducible rfl
 rotate_left
 · exact AP_
 refine take_ (i := 31) (N := some 62) (v := ?_) (a' := ?_) #[true, true, true, true, true, true, true, true, true, true, true, true, true, true, true, true, true, true, true, true, true, true, true, true, true, true, true, true, true, true, true, true, false, false, false, false, false, false, false, false, false] rfl rfl (take_ofW HT_.out HW_.out (by kernel_rfl)) (fun _ _ _ h => h) (Or.inl ⟨by rfl, ?_⟩) hHeld ?_ ?_
 rotate_left
 · rintro w' ⟨s0, s1, s2, s3, s4, s5, s6, s7, s8, s9, s10⟩
   go_simp
   with_reducible rfl
 rotate_left
 · exact AP_
 refine one_ (i := 32) (N := some 63) #[true, true, true, true, true, true, true, true, true, true, true, true, true, true, true, true, true, true, true, true, true, true, true, true, true, true, true, true, true, true, true, true, true, false, false, false, false, false, false, false, false] rfl rfl (one_of HT_.out (by kernel_rfl)) (by decide) (fun K hK => ?_)
 refine goes_ Try.func19 (by kernel_rfl) rfl #[.agg #[.int .i64 t433, .slice Ao25 t434.length co25], .agg #[.int .i64 5, .int .i64 1, .int .i64 0, .int .i64 2, .int .i64 0]] (by rfl) rfl rfl MP_ ?_
 with_reducible refine (post_Must.calls k t433 _ _ t434 5 1 0 2 0 false _ ?side1 ?side2 A16.out).mono ?_
 (case side1 => repeat (first | exact (Kd.V_reads' HO436.out).2.2 | (with_reducible refine Kd.C_alloc ?_ _) | (with_reducible refine Kd.C_drewN ?_ _) | (with_reducible refine Kd.C_drew ?_)))
 (case side2 => exact (Kd.V_reads' HO436.out).2.1)
 rintro e w67 ⟨rfl, hb⟩
 refine ⟨_, rfl, ?_⟩
 have n_ := a_ (rb_ HO432 hb) (a_ (Aside0.mk (Kd.V_below (by (with_reducible repeat (first | apply Kd.V_alloc | apply Kd.V_drewN | apply Kd.V_drew)); exact HO436.out) hb)) (a_ (rb_ HO441 hb) (a_ (rb_ HO448 hb) (a_ (rb_ HO454 hb) (a_ (rb_ HO459 hb) (a_ (Aside0.mk (Kd.V_below (by (with_reducible repeat (first | apply Kd.V_alloc | apply Kd.V_drewN | apply Kd.V_drew)); exact HO463.out) hb)) (a_ (rb_ HO467 hb) (a_ (Aside0.mk (Kd.V_below (by (with_reducible repeat (first | apply Kd.V_alloc | apply Kd.V_drewN | apply Kd.V_drew)); exact HO471.out) hb)) (a_ (bb_ BK437 hb) (a_ (bb_ BK443 hb) (a_ (bb_ BK444 hb) (a_ (bb_ BK450 hb) (a_ (bb_ BK456 hb) (bs_ HB hb))))))))))))))
 clear HO432 HO436 HO441 HO448 HO454 HO459 HO463 HO467 HO471 BK437 BK443 BK444 BK450 BK456 HB
 obtain ⟨HO432, HO436, HO441, HO448, HO454, HO459, HO463, HO467, HO471, BK437, BK443, BK444, BK450, BK456, HB⟩ := n_
 (try clear hb)
 (try clear hb2)
 (try clear hk)
 (try clear hi)
 refine hK.out _ _ ⟨(blk_cell BK443.out 0).trans rfl, (blk_cell BK443.out 1).trans rfl, (blk_cell BK450.out 0).trans rfl, (blk_cell BK450.out 1).trans rfl, (blk_cell BK437.out 0).trans rfl, (blk_cell BK437.out 1).trans rfl, (blk_cell BK444.out 0).trans rfl, (blk_cell BK444.out 1).trans rfl, (blk_cell BK444.out 2).trans rfl, (blk_cell BK444.out 3).trans rfl, (blk_cell BK444.out 4).trans rfl⟩ (fun hHeld => ?_)
 clear hK K
 refine norm_ (a' := ?_) ?_ ?_
 rotate_left
 · show Act.put _ (some 63) _ = _
   simp only [Act.put, List.setIfInBounds_toArray, List.set_cons_zero, List.set_cons_succ, i64_w, i32_w]
   rfl
 refine pure_ (i := 33) (N := some 64) (v := ?_) (a' := ?_) #[true, true, true, true, true, true, true, true, true, true, true, true, true, true, true, true, true, true, true, true, true, true, true, true, true, true, true, true, true, true, true, true, true, true, false, false, false, false, false, false, false] rfl rfl (any_of HT_.out (by kernel_rfl)) (fun _ _ _ h => h) (Or.inl ⟨by rfl, ?_⟩) ?_ ?_
 rotate_left
 · intro w'
   go_simp
   with_reducible rfl
 rotate_left
 · exact AP_
 refine pure_ (i := 34) (N := some 65) (v := ?_) (a' := ?_) #[true, true, true, true, true, true, true, true, true, true, true, true, true, true, true, true, true, true, true, true, true, true, true, true, true, true, true, true, true, true, true, true, true, true, true, false, false, false, false, false, false] rfl rfl (any_of HT_.out (by kernel_rfl)) (fun _ _ _ h => h) (Or.inl ⟨by rfl, ?_⟩) ?_ ?_
 rotate_left
 · intro w'
   go_simp
   with_reducible rfl
 rotate_left
 · exact AP_
 refine pure_ (i := 35) (N := some 66) (v := ?_) (a' := ?_) #[true, true, true, true, true, true, true, true, true, true, true, true, true, true, true, true, true, true, true, true, true, true, true, true, true, true, true, true, true, true, true, true, true, true, true, true, false, false, false, false, false] rfl rfl (any_of HT_.out (by kernel_rfl)) (fun _ _ _ h => h) (Or.inl ⟨by rfl, ?_⟩) ?_ ?_
 rotate_left
 · intro w'
   go_simp
   with_reducible rfl
 rotate_left
 · exact AP_
 refine take_ (i := 36) (N := some 67) (v := ?_) (a' := ?_) #[true, true, true, true, true, true, true, true, true, true, true, true, true, true, true, true, true, true, true, true, true, true, true, true, true, true, true, true, true, true, true, true, true, true, true, true, true, false, false, false, false] rfl rfl (take_ofW HT_.out HW_.out (by kernel_rfl)) (fun _ _ _ h => h) (Or.inl ⟨by rfl, ?_⟩) hHeld ?_ ?_
 rotate_left
 · rintro w' ⟨s0, s1, s2, s3, s4, s5, s6, s7, s8, s9, s10⟩
   go_simp
   with_reducible rfl
 rotate_left
 · exact AP_
 refine take_ (i := 37) (N := some 68) (v := ?_) (a' := ?_) #[true, true, true, true, true, true, true, true, true, true, true, true, true, true, true, true, true, true, true, true, true, true, true, true, true, true, true, true, true, true, true, true, true, true, true, true, true, true, false, false, false] rfl rfl (take_ofW HT_.out HW_.out (by kernel_rfl)) (fun _ _ _ h => h) (Or.inl ⟨by rfl, ?_⟩) hHeld ?_ ?_
 rotate_left
 · rintro w' ⟨s0, s1, s2, s3, s4, s5, s6, s7, s8, s9, s10⟩
   go_simp
   with_reducible rfl
 rotate_left
 · exact AP_
 refine one_ (i := 38) (N := some 69) #[true, true, true, true, true, true, true, true, true, true, true, true, true, true, true, true, true, true, true, true, true, true, true, true, true, true, true, true, true, true, true, true, true, true, true, true, true, true, true, false, false] rfl rfl (one_of HT_.out (by kernel_rfl)) (by decide) (fun K hK => ?_)
 refine goes_ Try.func19 (by kernel_rfl) rfl #[.agg #[.int .i64 t445, .slice Ao42 t446.length co42], .agg #[.int .i64 5, .int .i64 1, .int .i64 0, .int .i64 2, .int .i64 0]] (by rfl) rfl rfl MP_ ?_
 with_reducible refine (post_Must.calls k t445 _ _ t446 5 1 0 2 0 t475 _ ?side1 ?side2 A18.out).mono ?_
 (case side1 => repeat (first | exact (Kd.R_reads' HO448.out).2.2 | (with_reducible refine Kd.C_alloc ?_ _) | (with_reducible refine Kd.C_drewN ?_ _) | (with_reducible refine Kd.C_drew ?_)))
 (case side2 => exact (Kd.R_reads' HO448.out).2.1)
 rintro e w68 ⟨rfl, hb⟩
 refine ⟨_, rfl, ?_⟩
 have n_ := a_ (rb_ HO432 hb) (a_ (Aside0.mk (Kd.V_below (by (with_reducible repeat (first | apply Kd.V_alloc | apply Kd.V_drewN | apply Kd.V_drew)); exact HO436.out) hb)) (a_ (rb_ HO441 hb) (a_ (rb_ HO448 hb) (a_ (rb_ HO454 hb) (a_ (rb_ HO459 hb) (a_ (Aside0.mk (Kd.V_below (by (with_reducible repeat (first | apply Kd.V_alloc | apply Kd.V_drewN | apply Kd.V_drew)); exact HO463.out) hb)) (a_ (rb_ HO467 hb) (a_ (Aside0.mk (Kd.V_below (by (with_reducible repeat (first | apply Kd.V_alloc | apply Kd.V_drewN | apply Kd.V_drew)); exact HO471.out) hb)) (a_ (bb_ BK437 hb) (a_ (bb_ BK443 hb) (a_ (bb_ BK444 hb) (a_ (bb_ BK450 hb) (a_ (bb_ BK456 hb) (bs_ HB hb))))))))))))))
 clear HO432 HO436 HO441 HO448 HO454 HO459 HO463 HO467 HO471 BK437 BK443 BK444 BK450 BK456 HB
 obtain ⟨HO432, HO436, HO441, HO448, HO454, HO459, HO463, HO467, HO471, BK437, BK443, BK444, BK450, BK456, HB⟩ := n_
 (try clear hb)
 (try clear hb2)
 (try clear hk)
 (try clear hi)
 refine hK.out _ _ ⟨(blk_cell BK443.out 0).trans rfl, (blk_cell BK443.out 1).trans rfl, (blk_cell BK450.out 0).trans rfl, (blk_cell BK450.out 1).trans rfl, (blk_cell BK437.out 0).trans rfl, (blk_cell BK437.out 1).trans rfl, (blk_cell BK444.out 0).trans rfl, (blk_cell BK444.out 1).trans rfl, (blk_cell BK444.out 2).trans rfl, (blk_cell BK444.out 3).trans rfl, (blk_cell BK444.out 4).trans rfl⟩ (fun hHeld => ?_)
 clear hK K
 refine norm_ (a' := ?_) ?_ ?_
 rotate_left
 · show Act.put _ (some 69) _ = _
   simp only [Act.put, List.setIfInBounds_toArray, List.set_cons_zero, List.set_cons_succ, i64_w, i32_w]
   rfl
 refine pure_ (i := 39) (N := some 70) (v := ?_) (a' := ?_) #[true, true, true, true, true, true, true, true, true, true, true, true, true, true, true, true, true, true, true, true, true, true, true, true, true, true, true, true, true, true, true, true, true, true, true, true, true, true, true, true, false] rfl rfl (any_of HT_.out (by kernel_rfl)) (fun _ _ _ h => h) (Or.inl ⟨by rfl, ?_⟩) ?_ ?_
 rotate_left
 · intro w'
   go_simp
   with_reducible rfl
 rotate_left
 · exact AP_
 refine pure_ (i := 40) (N := some 0) (v := ?_) (a' := ?_) #[true, true, true, true, true, true, true, true, true, true, true, true, true, true, true, true, true, true, true, true, true, true, true, true, true, true, true, true, true, true, true, true, true, true, true, true, true, true, true, true, true] rfl rfl (any_of HT_.out (by kernel_rfl)) (fun _ _ _ h => h) (Or.inl ⟨by rfl, ?_⟩) ?_ ?_
 rotate_left
 · intro w'
   go_simp
   with_reducible rfl
 rotate_left
 · exact AP_
 refine done_ (done_of HT_.out (by kernel_rfl)) ?_
 try go_wp2
 go_ret
 exact ⟨by first | rfl | (simp [errW_none, errW_some] <;> rfl) | (simp [*, errW_none, errW_some] <;> rfl), HB_⟩
end Go.Proofs.Ytgeemdpflcefkaa.Y

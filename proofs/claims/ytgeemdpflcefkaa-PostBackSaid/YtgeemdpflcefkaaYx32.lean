import Derived.Test.YtgeemdpflcefkaaYx0
import Derived.Test.YtgeemdpflcefkaaYx28
import Derived.Test.YtgeemdpflcefkaaYx29
import Derived.Test.YtgeemdpflcefkaaYx31
namespace Go.Proofs.Ytgeemdpflcefkaa.Y
open Go.RowKit Go.Proofs.YtgeemdpflcefkaaW.PrintWords Go.Proofs.YtgeemdpflcefkaaW.PrintLast Go.Proofs.YtgeemdpflcefkaaW.PrintMore
attribute [local go_sem] max2_int min2_int max_two min_two max_three min_three max_four min_four   -- for this text's walks alone
set_option linter.unusedVariables false
set_option linter.unusedSimpArgs false
def warrantorlaw14_lives.f (k : Nat)  : Option (Bool) := (warrantorref09_Box.f k (([(⟨0, 3⟩ : S39)] : List (S39)))).bind fun bt425 => ((post_Post.f k bt425.1 bt425.2 2 1 1 1 0).bind fun bt430 => ((post_Fault.f k bt425.1 bt425.2 5 1 0 2 0).bind fun bt437 => ((post_Post.f k bt425.1 bt425.2 0 0 0 0 0).bind fun bt443 => (if bt430.2.2 = 0 then ((warrantorref09_Box.f k (([(⟨1, 4⟩ : S39)] : List (S39)))).bind fun bt452 => ((warrantorref08_Same.f k bt430.1 bt430.2.1 bt452.1 bt452.2).bind fun t456 => (if t456 = true then (if bt437.2.2 = 0 then ((warrantorref09_Box.f k (([(⟨3, 3⟩ : S39)] : List (S39)))).bind fun bt460 => ((warrantorref08_Same.f k bt437.1 bt437.2.1 bt460.1 bt460.2).bind fun t464 => (if t464 = true then (if bt443.2.2 = 111 then ((post_May.f k bt425.1 bt425.2 5 1 0 2 0).bind fun t465 => (if t465 = true then ((post_Must.f k bt425.1 bt425.2 5 1 0 2 0).bind fun t466 => (if t466 = true then (none) else ((post_Must.f k bt437.1 bt437.2.1 5 1 0 2 0).bind fun t467 => (some t467)))) else (none))) else (none)) else (none)))) else (none)) else (none)))) else (none)))))
theorem warrantorlaw14_lives.mono : ∀ k, LeO (warrantorlaw14_lives.f k ) (warrantorlaw14_lives.f (k + 1) ) := by
 intro  k
 unfold warrantorlaw14_lives.f
 repeat' first
  | (with_reducible exact post_Fault.mono _ _ _ _ _ _ _ _)
  | (with_reducible exact post_May.mono _ _ _ _ _ _ _ _)
  | (with_reducible exact post_Must.mono _ _ _ _ _ _ _ _)
  | (with_reducible exact post_Post.mono _ _ _ _ _ _ _ _)
  | (with_reducible exact warrantorref08_Same.mono _ _ _ _ _)
  | (with_reducible exact warrantorref09_Box.mono _ _)
  | (with_reducible exact LeO.refl _)
  | (with_reducible exact LeO.none _)
  | (with_reducible refine LeO.ite ?_ ?_)
  | (with_reducible refine LeO.bind ?_ (fun _ => ?_))
  | exact post_Fault.mono _ _ _ _ _ _ _ _
  | exact post_May.mono _ _ _ _ _ _ _ _
  | exact post_Must.mono _ _ _ _ _ _ _ _
  | exact post_Post.mono _ _ _ _ _ _ _ _
  | exact warrantorref08_Same.mono _ _ _ _ _
  | exact warrantorref09_Box.mono _ _
  | exact LeO.none _
  | refine LeO.ite ?_ ?_
  | refine LeO.bind ?_ (fun _ => ?_)
def warrantorlaw14_lives.T6 : Bool × List (List Nat × List Nat) := (true, [([], []), ([0], [0]), ([1], [1]), ([2], [2]), ([2], [2]), ([4, 2], [2, 4]), ([5, 2, 2], [2, 5]), ([3, 6, 6, 2], [2, 3, 6]), ([2, 7], [2, 7]), ([8, 7], [8]), ([9], [9]), ([10, 9], [9, 10]), ([9, 11], [9, 11]), ([12, 9], [12]), ([13], [13]), ([13], [13]), ([15, 13], [13, 15]), ([16, 13, 13], [13, 16]), ([14, 17, 17, 13], [13, 14, 17]), ([13, 18], [13, 18]), ([19, 18], [19]), ([20], [20]), ([21, 20], [20, 21]), ([20, 22], [20, 22]), ([23, 20], [23]), ([24], [24]), ([24], [24]), ([25, 26, 24, 24], [24, 25, 26]), ([24, 27], [24, 27]), ([28, 27], [28]), ([29], [29]), ([29], [29]), ([30, 31, 29, 29], [29, 30, 31]), ([32, 29], [29, 32]), ([29, 33], [29, 33]), ([34, 32], [34]), ([35], [35]), ([35], [35]), ([36, 37, 35, 35], [35, 36, 37]), ([35, 38], [35, 38]), ([39, 38, 0, 1, 2, 3, 4, 5, 6, 7, 8, 9, 10, 11, 12, 13, 14, 15, 16, 17, 18, 19, 20, 21, 22, 23, 24, 25, 26, 27, 28, 29, 30, 31, 32, 33, 34, 35, 36, 37, 38, 39], [39])])
def warrantorlaw14_lives.B6 : List Nat := [0, 1, 3, 7, 7, 23, 55, 127, 255, 511, 1023, 2047, 4095, 8191, 16383, 16383, 49151, 114687, 262143, 524287, 1048575, 2097151, 4194303, 8388607, 16777215, 33554431, 33554431, 134217727, 268435455, 536870911, 1073741823, 1073741823, 4294967295, 8589934591, 17179869183, 34359738367, 68719476735, 68719476735, 274877906943, 549755813887, 1099511627775]
theorem warrantorlaw14_lives.tab6 : rtab .any (opsOf Try.f13 6) = warrantorlaw14_lives.T6 := by kernel_rfl
theorem warrantorlaw14_lives.bits6 : waitsOk warrantorlaw14_lives.T6.2 warrantorlaw14_lives.B6 = true := by kernel_rfl
set_option maxHeartbeats 8000000 in
set_option maxRecDepth 100000 in
theorem warrantorlaw14_lives.calls (k : Nat)  (r : Bool) (w : World) (h : warrantorlaw14_lives.f k  = some r) :
   Calls Try.prog 13 #[] w fun e w' => e = .returned (.bool r) ∧ Below w.heap.size w w' := by
 have hu39 := Try.underlying39
 have hu24 := Try.underlying24
 have hu26 := Try.underlying26
 have HB := Aside0.mk (Below.refl w.heap.size w)
 have H : ((warrantorref09_Box.f k (([(⟨0, 3⟩ : S39)] : List (S39)))).bind fun bt425 => ((post_Post.f k bt425.1 bt425.2 2 1 1 1 0).bind fun bt430 => ((post_Fault.f k bt425.1 bt425.2 5 1 0 2 0).bind fun bt437 => ((post_Post.f k bt425.1 bt425.2 0 0 0 0 0).bind fun bt443 => (if bt430.2.2 = 0 then ((warrantorref09_Box.f k (([(⟨1, 4⟩ : S39)] : List (S39)))).bind fun bt452 => ((warrantorref08_Same.f k bt430.1 bt430.2.1 bt452.1 bt452.2).bind fun t456 => (if t456 = true then (if bt437.2.2 = 0 then ((warrantorref09_Box.f k (([(⟨3, 3⟩ : S39)] : List (S39)))).bind fun bt460 => ((warrantorref08_Same.f k bt437.1 bt437.2.1 bt460.1 bt460.2).bind fun t464 => (if t464 = true then (if bt443.2.2 = 111 then ((post_May.f k bt425.1 bt425.2 5 1 0 2 0).bind fun t465 => (if t465 = true then ((post_Must.f k bt425.1 bt425.2 5 1 0 2 0).bind fun t466 => (if t466 = true then (none) else ((post_Must.f k bt437.1 bt437.2.1 5 1 0 2 0).bind fun t467 => (some t467)))) else (none))) else (none)) else (none)))) else (none)) else (none)))) else (none)))))) = some r := h
 clear h
 obtain ⟨y422, hy422⟩ : ∃ y_ : List (S39), y_ = (([(⟨0, 3⟩ : S39)] : List (S39))) := ⟨_, rfl⟩
 replace H : ((warrantorref09_Box.f k y422).bind fun bt425 => ((post_Post.f k bt425.1 bt425.2 2 1 1 1 0).bind fun bt430 => ((post_Fault.f k bt425.1 bt425.2 5 1 0 2 0).bind fun bt437 => ((post_Post.f k bt425.1 bt425.2 0 0 0 0 0).bind fun bt443 => (if bt430.2.2 = 0 then ((warrantorref09_Box.f k (([(⟨1, 4⟩ : S39)] : List (S39)))).bind fun bt452 => ((warrantorref08_Same.f k bt430.1 bt430.2.1 bt452.1 bt452.2).bind fun t456 => (if t456 = true then (if bt437.2.2 = 0 then ((warrantorref09_Box.f k (([(⟨3, 3⟩ : S39)] : List (S39)))).bind fun bt460 => ((warrantorref08_Same.f k bt437.1 bt437.2.1 bt460.1 bt460.2).bind fun t464 => (if t464 = true then (if bt443.2.2 = 111 then ((post_May.f k bt425.1 bt425.2 5 1 0 2 0).bind fun t465 => (if t465 = true then ((post_Must.f k bt425.1 bt425.2 5 1 0 2 0).bind fun t466 => (if t466 = true then (none) else ((post_Must.f k bt437.1 bt437.2.1 5 1 0 2 0).bind fun t467 => (some t467)))) else (none))) else (none)) else (none)))) else (none)) else (none)))) else (none)))))) = some r := by first | (rw [hy422]; with_reducible exact H) | (have H2_ := (Option.bind_some _ _).symm.trans H; rw [hy422]; with_reducible exact H2_) | (have H2_ := (Option.bind_some _ _).symm.trans H; with_reducible exact H2_) | with_reducible exact H | (rw [hy422]; exact H) | exact H
 have Ny422 := Aside0.mk hy422
 clear hy422
 replace H := bd_ H
 obtain ⟨⟨t425, t426⟩, A1, H⟩ := H
 (try dsimp only at H)
 replace H := bd_ H
 obtain ⟨⟨t430, t431, t434⟩, A2, H⟩ := H
 (try dsimp only at H)
 replace H := bd_ H
 obtain ⟨⟨t437, t438, t441⟩, A3, H⟩ := H
 (try dsimp only at H)
 replace H := bd_ H
 obtain ⟨⟨t443, t444, t447⟩, A4, H⟩ := H
 (try dsimp only at H)
 replace H := yes_ H
 obtain ⟨c5, H⟩ := H
 have c5b0 : (t434 == 0) = true := beq_iff_eq.mpr c5
 have c5b1 : (t434 != 0) = false := bne_eq_false_iff_eq.mpr c5
 clear c5
 obtain ⟨y449, hy449⟩ : ∃ y_ : List (S39), y_ = (([(⟨1, 4⟩ : S39)] : List (S39))) := ⟨_, rfl⟩
 replace H : ((warrantorref09_Box.f k y449).bind fun bt452 => ((warrantorref08_Same.f k t430 t431 bt452.1 bt452.2).bind fun t456 => (if t456 = true then (if t441 = 0 then ((warrantorref09_Box.f k (([(⟨3, 3⟩ : S39)] : List (S39)))).bind fun bt460 => ((warrantorref08_Same.f k t437 t438 bt460.1 bt460.2).bind fun t464 => (if t464 = true then (if t447 = 111 then ((post_May.f k t425 t426 5 1 0 2 0).bind fun t465 => (if t465 = true then ((post_Must.f k t425 t426 5 1 0 2 0).bind fun t466 => (if t466 = true then (none) else ((post_Must.f k t437 t438 5 1 0 2 0).bind fun t467 => (some t467)))) else (none))) else (none)) else (none)))) else (none)) else (none)))) = some r := by first | (rw [hy449]; with_reducible exact H) | (have H2_ := (Option.bind_some _ _).symm.trans H; rw [hy449]; with_reducible exact H2_) | (have H2_ := (Option.bind_some _ _).symm.trans H; with_reducible exact H2_) | with_reducible exact H | (rw [hy449]; exact H) | exact H
 have Ny449 := Aside0.mk hy449
 clear hy449
 replace H := bd_ H
 obtain ⟨⟨t452, t453⟩, A6, H⟩ := H
 (try dsimp only at H)
 replace H := bd_ H
 obtain ⟨t456, A7, H⟩ := H
 (try dsimp only at H)
 replace H := yes_ H
 obtain ⟨c8, H⟩ := H
 subst c8
 replace H := yes_ H
 obtain ⟨c9, H⟩ := H
 have c9b0 : (t441 == 0) = true := beq_iff_eq.mpr c9
 have c9b1 : (t441 != 0) = false := bne_eq_false_iff_eq.mpr c9
 clear c9
 obtain ⟨y457, hy457⟩ : ∃ y_ : List (S39), y_ = (([(⟨3, 3⟩ : S39)] : List (S39))) := ⟨_, rfl⟩
 replace H : ((warrantorref09_Box.f k y457).bind fun bt460 => ((warrantorref08_Same.f k t437 t438 bt460.1 bt460.2).bind fun t464 => (if t464 = true then (if t447 = 111 then ((post_May.f k t425 t426 5 1 0 2 0).bind fun t465 => (if t465 = true then ((post_Must.f k t425 t426 5 1 0 2 0).bind fun t466 => (if t466 = true then (none) else ((post_Must.f k t437 t438 5 1 0 2 0).bind fun t467 => (some t467)))) else (none))) else (none)) else (none)))) = some r := by first | (rw [hy457]; with_reducible exact H) | (have H2_ := (Option.bind_some _ _).symm.trans H; rw [hy457]; with_reducible exact H2_) | (have H2_ := (Option.bind_some _ _).symm.trans H; with_reducible exact H2_) | with_reducible exact H | (rw [hy457]; exact H) | exact H
 have Ny457 := Aside0.mk hy457
 clear hy457
 replace H := bd_ H
 obtain ⟨⟨t460, t461⟩, A10, H⟩ := H
 (try dsimp only at H)
 replace H := bd_ H
 obtain ⟨t464, A11, H⟩ := H
 (try dsimp only at H)
 replace H := yes_ H
 obtain ⟨c12, H⟩ := H
 subst c12
 replace H := yes_ H
 obtain ⟨c13, H⟩ := H
 have c13b0 : (t447 == 111) = true := beq_iff_eq.mpr c13
 have c13b1 : (t447 != 111) = false := bne_eq_false_iff_eq.mpr c13
 clear c13
 replace H := bd_ H
 obtain ⟨t465, A14, H⟩ := H
 (try dsimp only at H)
 replace H := yes_ H
 obtain ⟨c15, H⟩ := H
 subst c15
 replace H := bd_ H
 obtain ⟨t466, A16, H⟩ := H
 (try dsimp only at H)
 by_cases c17 : t466 = true
 · subst c17
   replace H := ps1_ H
   exact absurd H (by simp)
 replace c17 := Bool.eq_false_iff.mpr c17
 subst c17
 replace H := ng1_ H
 replace H := bd_ H
 obtain ⟨t467, A18, H⟩ := H
 (try dsimp only at H)
 obtain rfl := Option.some.inj H
 go_enter Try.func13, Try.ntmps13
 try go_wp2_with (first | ((with_reducible refine gate_dst (N := 10) rfl ?_); (try (refine gate_guard (by rfl) ?_; dsimp only)); refine Kd.R_lit k39 _ 39 ?hg (N := 10) ?hd (xs := ([(⟨0, 3⟩ : S39)] : List (S39))) (inner := [.int .i64 0, .int .i64 3]) (ok := fun _ => True) (okp := fun _ => True) ?hr ?hp (fun _ hk => hk) trivial (Below.refl _ _) (Nat.le_refl _) (by simp) ?_; (case hd => rfl); (case hg => rfl); (case hr => first | (go_simp; done) | (go_simp; rfl)); (case hp => exact (Reps.c2 (show Kd.M k39 _ _ _ (⟨0, 3⟩ : S39) [.int .i64 0, .int .i64 3] from (k39_mkM _ _ _ (⟨0, 3⟩ : S39) )) (Reps.none _ _))); intro v423 w19 ho20 hb hg_ hnew_; clear hg_ hnew_; (first | rw [← Ny422.out] at ho20 | (simp only [Int.reduceToNat] at ho20; rw [← Ny422.out] at ho20)); have n_ := a_ (Aside0.mk (Kd.R_lower ho20 (below_size HB_))) (bs_ HB hb); clear HB; obtain ⟨HO424, HB⟩ := n_; clear hb ho20; obtain ⟨Ao21, co21, eo21⟩ := Kd.R_slice HO424.out; subst eo21) | ((with_reducible refine gate_callee (f := 51) rfl ?_); refine goesL_ (some 11) rfl rfl Try.func51 (by kernel_rfl) rfl #[.slice Ao21 y422.length co21] rfl MP_ ?_; (with_reducible refine (warrantorref09_Box.calls k _ _ y422 t425 t426 _ ?side1 ?side2 A1.out).mono ?_); (case side1 => repeat (first | exact (Kd.R_reads' HO424.out).2.2 | (with_reducible refine Kd.C_alloc ?_ _) | (with_reducible refine Kd.C_drewN ?_ _) | (with_reducible refine Kd.C_drew ?_))); (case side2 => exact (Kd.R_reads' HO424.out).2.1); rintro e w22 ⟨v427, rfl, ho0, hb⟩; refine ⟨_, rfl, ?_⟩; have n_ := a_ (rb_ HO424 hb) (a_ (Aside0.mk (Kd.V_lower (Kd.V_mono (ok' := fun k_ => some k_ ≠ (.slice Ao21 y422.length co21 : Value).ownBlock) ho0 (fun k_ hk_ => (Kd.fresh' (Kd.R_lt (rd_ HO424.out)) k_ hk_))) (below_size HB_))) (bs_ HB hb)); clear HO424 HB; obtain ⟨HO424, HO428, HB⟩ := n_; (try clear hb); (try clear hb2); (try clear hk); (try clear hi); (try clear ho0)) | ((with_reducible refine gate_dst (N := 1) rfl ?_); (try (refine gate_guard (by rfl) ?_; dsimp only)); refine bx_ (N := 1) (cs := #[.int .i64 0, .slice none 0 0]) (t := 24) ?_; intro gb429 hg w23 hbox hb; have n_ := a_ (rb_ HO424 hb) (a_ (Aside0.mk (Kd.V_below (Kd.V_elderB (by (with_reducible repeat (first | apply Kd.V_alloc | apply Kd.V_drewN | apply Kd.V_drew)); exact HO428.out) gb429 (Nat.le_of_eq hg.symm)) hb)) (a_ (bs_ HB hb) (a_ (Aside0.mk hbox) (a_ (gs_ HB hg) (gs_ HB hg))))); clear HO424 HO428 HB; obtain ⟨HO424, HO428, HB, BK429, GW429, GE429⟩ := n_; clear hb hbox hg; obtain ⟨hcz24_0, hcz24_1, hfz24_0, hfz24_1⟩ := cz2_ BK429; obtain ⟨Ao25, co25, eo25⟩ := Kd.V_slice HO428.out; subst eo25) | ((with_reducible refine gate_callee (f := 15) rfl ?_); refine goesL_ (some 15) rfl rfl Try.func15 (by kernel_rfl) rfl #[.agg #[.int .i64 t425, .slice Ao25 t426.length co25], .agg #[.int .i64 2, .int .i64 1, .int .i64 1, .int .i64 1, .int .i64 0]] rfl MP_ ?_; (with_reducible refine (post_Post.calls k t425 _ _ t426 2 1 1 1 0 t430 t431 t434 _ ?side1 ?side2 A2.out).mono ?_); (case side1 => refine (Kd.V_reads' (e := 3) (base := w.heap.size) (ok := fun k_ => (some k_ ≠ (.slice Ao21 y422.length co21 : Value).ownBlock ∧ k_ ≠ gb429)) (n := t426.length) (c := co25) ?_).2.2; exact (by (with_reducible repeat (first | apply Kd.V_alloc | apply Kd.V_drewN | apply Kd.V_drew)); exact (Kd.V_mono (Kd.V_far (p := ⟨gb429, 1, none⟩) (Kd.V_far (p := ⟨gb429, 0, none⟩) (Kd.V_mono HO428.out (fun k_ hk => (⟨hk, hk.2⟩ : _ ∧ k_ ≠ gb429))) (fun _ hk => hk.2) (.int .i64 t425)) (fun _ hk => hk.2) (.slice Ao25 t426.length co25)) (fun _ h_ => h_.1)))); (case side2 => exact (Kd.V_reads' HO428.out).2.1); rintro e w26 ⟨v432, rfl, ho0, hb⟩; refine ⟨_, rfl, ?_⟩; have n_ := a_ (Aside0.mk (Kd.R_below (rd_ (rf2_ HO424 BK429 (.int .i64 t425) (.slice Ao25 t426.length co25))) hb)) (a_ (Aside0.mk (Kd.V_elder' (by (with_reducible repeat (first | apply Kd.V_alloc | apply Kd.V_drewN | apply Kd.V_drew)); exact (Kd.V_mono (Kd.V_far (p := ⟨gb429, 1, none⟩) (Kd.V_far (p := ⟨gb429, 0, none⟩) (Kd.V_mono HO428.out (fun k_ hk => (⟨hk, hk.2⟩ : _ ∧ k_ ≠ gb429))) (fun _ hk => hk.2) (.int .i64 t425)) (fun _ hk => hk.2) (.slice Ao25 t426.length co25)) (fun _ h_ => h_.1))) (Kd.R_base ho0) hb)) (a_ (Aside0.mk (Kd.R_lower ho0 (below_size HB_))) (a_ (bc_ #[.int .i64 t425, .slice Ao25 t426.length co25] 24 BK429 hb) (bs_ HB hb)))); clear HO424 HO428 BK429 HB; obtain ⟨HO424, HO428, HO433, BK429, HB⟩ := n_; (try clear hb); (try clear hb2); (try clear hk); (try clear hi); (try clear ho0)) | ((with_reducible refine gate_dst (N := 2) rfl ?_); (try (refine gate_guard (by rfl) ?_; dsimp only)); refine bx_ (N := 2) (cs := #[.int .i64 0, .slice none 0 0]) (t := 24) ?_; intro gb435 hg w27 hbox hb; have n_ := a_ (rb_ HO424 hb) (a_ (Aside0.mk (Kd.V_below (Kd.V_elderB (by (with_reducible repeat (first | apply Kd.V_alloc | apply Kd.V_drewN | apply Kd.V_drew)); exact HO428.out) gb435 (Nat.le_of_eq hg.symm)) hb)) (a_ (rb_ HO433 hb) (a_ (bb_ BK429 hb) (a_ (bs_ HB hb) (a_ (Aside0.mk hbox) (a_ (gs_ HB hg) (a_ (gs_ HB hg) (a_ (nl_ BK429 hg) (ng_ BK429 hg))))))))); clear HO424 HO428 HO433 BK429 HB; obtain ⟨HO424, HO428, HO433, BK429, HB, BK435, GW435, GE435, NB429_435, NB435_429⟩ := n_; clear hb hbox hg; have hnb28 := NB435_429.out; have hnc28 := NB429_435.out; obtain ⟨hcz29_0, hcz29_1, hfz29_0, hfz29_1⟩ := cz2_ BK435; obtain ⟨Ao30, co30, eo30⟩ := Kd.R_slice HO433.out; subst eo30) | ((with_reducible refine gate_dst (N := 4) rfl ?_); (try (refine gate_guard (by rfl) ?_; dsimp only)); refine bx_ (N := 4) (cs := #[.int .i64 0, .int .i64 0, .int .i64 0, .int .i64 0, .int .i64 0]) (t := 26) ?_; intro gb436 hg w31 hbox hb; have n_ := a_ (Aside0.mk (Kd.R_below (rd_ (rf2_ HO424 BK435 (.int .i64 t430) (.slice Ao30 t431.length co30))) hb)) (a_ (Aside0.mk (Kd.V_below (Kd.V_elderB (by (with_reducible repeat (first | apply Kd.V_alloc | apply Kd.V_drewN | apply Kd.V_drew)); exact (Kd.V_mono (Kd.V_far (p := ⟨gb435, 1, none⟩) (Kd.V_far (p := ⟨gb435, 0, none⟩) (Kd.V_mono HO428.out (fun k_ hk => (⟨hk, hk.2⟩ : _ ∧ k_ ≠ gb435))) (fun _ hk => hk.2) (.int .i64 t430)) (fun _ hk => hk.2) (.slice Ao30 t431.length co30)) (fun _ h_ => h_.1))) gb436 (Nat.le_of_eq hg.symm)) hb)) (a_ (Aside0.mk (Kd.R_below (rd_ (rf2_ HO433 BK435 (.int .i64 t430) (.slice Ao30 t431.length co30))) hb)) (a_ (bc_ #[.int .i64 t425, .slice Ao25 t426.length co25] 24 BK429 hb) (a_ (bc_ #[.int .i64 t430, .slice Ao30 t431.length co30] 24 BK435 hb) (a_ (bs_ HB hb) (a_ (Aside0.mk hbox) (a_ (gs_ HB hg) (a_ (gs_ HB hg) (a_ (Aside0.mk (by rw [hg]; exact Nat.ne_of_lt (blk_lt (g := gb429) (o := .cells #[.int .i64 t425, .slice Ao25 t426.length co25] 24 (0, 0)) (bk2_ BK429.out)) : gb429 ≠ gb436)) (a_ (Aside0.mk (by rw [hg]; exact Nat.ne_of_gt (blk_lt (g := gb429) (o := .cells #[.int .i64 t425, .slice Ao25 t426.length co25] 24 (0, 0)) (bk2_ BK429.out)) : gb436 ≠ gb429)) (a_ (Aside0.mk (by rw [hg]; exact Nat.ne_of_lt (blk_lt (g := gb435) (o := .cells #[.int .i64 t430, .slice Ao30 t431.length co30] 24 (0, 0)) (bk2_ BK435.out)) : gb435 ≠ gb436)) (Aside0.mk (by rw [hg]; exact Nat.ne_of_gt (blk_lt (g := gb435) (o := .cells #[.int .i64 t430, .slice Ao30 t431.length co30] 24 (0, 0)) (bk2_ BK435.out)) : gb436 ≠ gb435))))))))))))); clear HO424 HO428 HO433 BK429 BK435 HB; obtain ⟨HO424, HO428, HO433, BK429, BK435, HB, BK436, GW436, GE436, NB429_436, NB436_429, NB435_436, NB436_435⟩ := n_; clear hb hbox hg; have hnb32 := NB436_429.out; have hnc32 := NB429_436.out; have hnb33 := NB436_435.out; have hnc33 := NB435_436.out; obtain ⟨hcz34_0, hcz34_1, hcz34_2, hcz34_3, hcz34_4, hfz34_0, hfz34_1, hfz34_2, hfz34_3, hfz34_4⟩ := cz5_ BK436; obtain ⟨hcz35_0, hcz35_1, hfz35_0, hfz35_1⟩ := cz2_ BK429) | ((with_reducible refine gate_callee (f := 16) rfl ?_); refine goesL_ (some 22) rfl rfl Try.func16 (by kernel_rfl) rfl #[.agg #[.int .i64 t425, .slice Ao25 t426.length co25], .agg #[.int .i64 5, .int .i64 1, .int .i64 0, .int .i64 2, .int .i64 0]] rfl MP_ ?_; (with_reducible refine (post_Fault.calls k t425 _ _ t426 5 1 0 2 0 t437 t438 t441 _ ?side1 ?side2 A3.out).mono ?_); (case side1 => refine (Kd.V_reads' (e := 3) (base := w.heap.size) (ok := fun k_ => ((((some k_ ≠ (.slice Ao21 y422.length co21 : Value).ownBlock ∧ k_ ≠ gb429) ∧ some k_ ≠ (.slice Ao30 t431.length co30 : Value).ownBlock) ∧ k_ ≠ gb435) ∧ k_ ≠ gb436)) (n := t426.length) (c := co25) ?_).2.2; exact (by (with_reducible repeat (first | apply Kd.V_alloc | apply Kd.V_drewN | apply Kd.V_drew)); exact (Kd.V_mono (Kd.V_far (p := ⟨gb436, 4, none⟩) (Kd.V_far (p := ⟨gb436, 3, none⟩) (Kd.V_far (p := ⟨gb436, 2, none⟩) (Kd.V_far (p := ⟨gb436, 1, none⟩) (Kd.V_far (p := ⟨gb436, 0, none⟩) (Kd.V_mono HO428.out (fun k_ hk => (⟨hk, hk.2⟩ : _ ∧ k_ ≠ gb436))) (fun _ hk => hk.2) (.int .i64 5)) (fun _ hk => hk.2) (.int .i64 1)) (fun _ hk => hk.2) (.int .i64 0)) (fun _ hk => hk.2) (.int .i64 2)) (fun _ hk => hk.2) (.int .i64 0)) (fun _ h_ => h_.1)))); (case side2 => exact (Kd.V_reads' HO428.out).2.1); rintro e w36 ⟨v439, rfl, ho0, hb⟩; refine ⟨_, rfl, ?_⟩; have n_ := a_ (Aside0.mk (Kd.R_below (rd_ (Kd.R_mono (Kd.R_far (p := ⟨gb436, 4, none⟩) (Kd.R_far (p := ⟨gb436, 3, none⟩) (Kd.R_far (p := ⟨gb436, 2, none⟩) (Kd.R_far (p := ⟨gb436, 1, none⟩) (Kd.R_far (p := ⟨gb436, 0, none⟩) (Kd.R_types HO424.out BK436.out (by decide)) (fun _ hk => hk.2) (.int .i64 5)) (fun _ hk => hk.2) (.int .i64 1)) (fun _ hk => hk.2) (.int .i64 0)) (fun _ hk => hk.2) (.int .i64 2)) (fun _ hk => hk.2) (.int .i64 0)) (fun _ h_ => h_.1))) hb)) (a_ (Aside0.mk (Kd.V_elder' (by (with_reducible repeat (first | apply Kd.V_alloc | apply Kd.V_drewN | apply Kd.V_drew)); exact (Kd.V_mono (Kd.V_far (p := ⟨gb436, 4, none⟩) (Kd.V_far (p := ⟨gb436, 3, none⟩) (Kd.V_far (p := ⟨gb436, 2, none⟩) (Kd.V_far (p := ⟨gb436, 1, none⟩) (Kd.V_far (p := ⟨gb436, 0, none⟩) (Kd.V_mono HO428.out (fun k_ hk => (⟨hk, hk.2⟩ : _ ∧ k_ ≠ gb436))) (fun _ hk => hk.2) (.int .i64 5)) (fun _ hk => hk.2) (.int .i64 1)) (fun _ hk => hk.2) (.int .i64 0)) (fun _ hk => hk.2) (.int .i64 2)) (fun _ hk => hk.2) (.int .i64 0)) (fun _ h_ => h_.1))) (Kd.R_base ho0) hb)) (a_ (Aside0.mk (Kd.R_elder' (rd_ (Kd.R_mono (Kd.R_far (p := ⟨gb436, 4, none⟩) (Kd.R_far (p := ⟨gb436, 3, none⟩) (Kd.R_far (p := ⟨gb436, 2, none⟩) (Kd.R_far (p := ⟨gb436, 1, none⟩) (Kd.R_far (p := ⟨gb436, 0, none⟩) (Kd.R_types HO433.out BK436.out (by decide)) (fun _ hk => hk.2) (.int .i64 5)) (fun _ hk => hk.2) (.int .i64 1)) (fun _ hk => hk.2) (.int .i64 0)) (fun _ hk => hk.2) (.int .i64 2)) (fun _ hk => hk.2) (.int .i64 0)) (fun _ h_ => h_.1))) (Kd.R_base ho0) hb)) (a_ (Aside0.mk (Kd.R_lower (Kd.R_new' ho0 (Kd.R_lt (rd_ (Kd.R_mono (Kd.R_far (p := ⟨gb436, 4, none⟩) (Kd.R_far (p := ⟨gb436, 3, none⟩) (Kd.R_far (p := ⟨gb436, 2, none⟩) (Kd.R_far (p := ⟨gb436, 1, none⟩) (Kd.R_far (p := ⟨gb436, 0, none⟩) (Kd.R_types HO433.out BK436.out (by decide)) (fun _ hk => hk.2) (.int .i64 5)) (fun _ hk => hk.2) (.int .i64 1)) (fun _ hk => hk.2) (.int .i64 0)) (fun _ hk => hk.2) (.int .i64 2)) (fun _ hk => hk.2) (.int .i64 0)) (fun _ h_ => h_.1))))) (below_size HB_))) (a_ (bc_ #[.int .i64 t425, .slice Ao25 t426.length co25] 24 BK429 hb) (a_ (bc_ #[.int .i64 t430, .slice Ao30 t431.length co30] 24 BK435 hb) (a_ (bc_ #[.int .i64 5, .int .i64 1, .int .i64 0, .int .i64 2, .int .i64 0] 26 BK436 hb) (bs_ HB hb))))))); clear HO424 HO428 HO433 BK429 BK435 BK436 HB; obtain ⟨HO424, HO428, HO433, HO440, BK429, BK435, BK436, HB⟩ := n_; (try clear hb); (try clear hb2); (try clear hk); (try clear hi); (try clear ho0)) | ((with_reducible refine gate_dst (N := 5) rfl ?_); (try (refine gate_guard (by rfl) ?_; dsimp only)); refine bx_ (N := 5) (cs := #[.int .i64 0, .slice none 0 0]) (t := 24) ?_; intro gb442 hg w37 hbox hb; have n_ := a_ (rb_ HO424 hb) (a_ (Aside0.mk (Kd.V_below (Kd.V_elderB (by (with_reducible repeat (first | apply Kd.V_alloc | apply Kd.V_drewN | apply Kd.V_drew)); exact HO428.out) gb442 (Nat.le_of_eq hg.symm)) hb)) (a_ (rb_ HO433 hb) (a_ (rb_ HO440 hb) (a_ (bb_ BK429 hb) (a_ (bb_ BK435 hb) (a_ (bb_ BK436 hb) (a_ (bs_ HB hb) (a_ (Aside0.mk hbox) (a_ (gs_ HB hg) (a_ (gs_ HB hg) (a_ (nl_ BK429 hg) (a_ (ng_ BK429 hg) (a_ (nl_ BK435 hg) (a_ (ng_ BK435 hg) (a_ (nl_ BK436 hg) (ng_ BK436 hg)))))))))))))))); clear HO424 HO428 HO433 HO440 BK429 BK435 BK436 HB; obtain ⟨HO424, HO428, HO433, HO440, BK429, BK435, BK436, HB, BK442, GW442, GE442, NB429_442, NB442_429, NB435_442, NB442_435, NB436_442, NB442_436⟩ := n_; clear hb hbox hg; have hnb38 := NB442_429.out; have hnc38 := NB429_442.out; have hnb39 := NB442_435.out; have hnc39 := NB435_442.out; have hnb40 := NB442_436.out; have hnc40 := NB436_442.out; obtain ⟨hcz41_0, hcz41_1, hfz41_0, hfz41_1⟩ := cz2_ BK442; obtain ⟨Ao42, co42, eo42⟩ := Kd.R_slice HO440.out; subst eo42; obtain ⟨hcz43_0, hcz43_1, hfz43_0, hfz43_1⟩ := cz2_ BK429) | ((with_reducible refine gate_callee (f := 15) rfl ?_); refine goesL_ (some 28) rfl rfl Try.func15 (by kernel_rfl) rfl #[.agg #[.int .i64 t425, .slice Ao25 t426.length co25], .agg #[.int .i64 0, .int .i64 0, .int .i64 0, .int .i64 0, .int .i64 0]] rfl MP_ ?_; (with_reducible refine (post_Post.calls k t425 _ _ t426 0 0 0 0 0 t443 t444 t447 _ ?side1 ?side2 A4.out).mono ?_); (case side1 => refine (Kd.V_reads' (e := 3) (base := w.heap.size) (ok := fun k_ => ((((((some k_ ≠ (.slice Ao21 y422.length co21 : Value).ownBlock ∧ k_ ≠ gb429) ∧ some k_ ≠ (.slice Ao30 t431.length co30 : Value).ownBlock) ∧ k_ ≠ gb435) ∧ k_ ≠ gb436) ∧ some k_ ≠ (.slice Ao42 t438.length co42 : Value).ownBlock) ∧ k_ ≠ gb442)) (n := t426.length) (c := co25) ?_).2.2; exact (by (with_reducible repeat (first | apply Kd.V_alloc | apply Kd.V_drewN | apply Kd.V_drew)); exact (Kd.V_mono (Kd.V_far (p := ⟨gb442, 1, none⟩) (Kd.V_far (p := ⟨gb442, 0, none⟩) (Kd.V_mono HO428.out (fun k_ hk => (⟨hk, hk.2⟩ : _ ∧ k_ ≠ gb442))) (fun _ hk => hk.2) (.int .i64 t437)) (fun _ hk => hk.2) (.slice Ao42 t438.length co42)) (fun _ h_ => h_.1)))); (case side2 => exact (Kd.V_reads' HO428.out).2.1); rintro e w44 ⟨v445, rfl, ho0, hb⟩; refine ⟨_, rfl, ?_⟩; have n_ := a_ (Aside0.mk (Kd.R_below (rd_ (rf2_ HO424 BK442 (.int .i64 t437) (.slice Ao42 t438.length co42))) hb)) (a_ (Aside0.mk (Kd.V_elder' (by (with_reducible repeat (first | apply Kd.V_alloc | apply Kd.V_drewN | apply Kd.V_drew)); exact (Kd.V_mono (Kd.V_far (p := ⟨gb442, 1, none⟩) (Kd.V_far (p := ⟨gb442, 0, none⟩) (Kd.V_mono HO428.out (fun k_ hk => (⟨hk, hk.2⟩ : _ ∧ k_ ≠ gb442))) (fun _ hk => hk.2) (.int .i64 t437)) (fun _ hk => hk.2) (.slice Ao42 t438.length co42)) (fun _ h_ => h_.1))) (Kd.R_base ho0) hb)) (a_ (Aside0.mk (Kd.R_elder' (rd_ (rf2_ HO433 BK442 (.int .i64 t437) (.slice Ao42 t438.length co42))) (Kd.R_base ho0) hb)) (a_ (Aside0.mk (Kd.R_elder' (rd_ (rf2_ HO440 BK442 (.int .i64 t437) (.slice Ao42 t438.length co42))) (Kd.R_base ho0) hb)) (a_ (Aside0.mk (Kd.R_lower (Kd.R_new' (Kd.R_new' ho0 (Kd.R_lt (rd_ (rf2_ HO433 BK442 (.int .i64 t437) (.slice Ao42 t438.length co42))))) (Kd.R_lt (rd_ (rf2_ HO440 BK442 (.int .i64 t437) (.slice Ao42 t438.length co42))))) (below_size HB_))) (a_ (bc_ #[.int .i64 t425, .slice Ao25 t426.length co25] 24 BK429 hb) (a_ (bc_ #[.int .i64 t430, .slice Ao30 t431.length co30] 24 BK435 hb) (a_ (bc_ #[.int .i64 5, .int .i64 1, .int .i64 0, .int .i64 2, .int .i64 0] 26 BK436 hb) (a_ (bc_ #[.int .i64 t437, .slice Ao42 t438.length co42] 24 BK442 hb) (bs_ HB hb))))))))); clear HO424 HO428 HO433 HO440 BK429 BK435 BK436 BK442 HB; obtain ⟨HO424, HO428, HO433, HO440, HO446, BK429, BK435, BK436, BK442, HB⟩ := n_; (try clear hb); (try clear hb2); (try clear hk); (try clear hi); (try clear ho0)) | ((with_reducible refine gate_dst (N := 7) rfl ?_); (try (refine gate_guard (by rfl) ?_; dsimp only)); refine bx_ (N := 7) (cs := #[.int .i64 0, .slice none 0 0]) (t := 24) ?_; intro gb448 hg w45 hbox hb; have n_ := a_ (rb_ HO424 hb) (a_ (Aside0.mk (Kd.V_below (Kd.V_elderB (by (with_reducible repeat (first | apply Kd.V_alloc | apply Kd.V_drewN | apply Kd.V_drew)); exact HO428.out) gb448 (Nat.le_of_eq hg.symm)) hb)) (a_ (rb_ HO433 hb) (a_ (rb_ HO440 hb) (a_ (rb_ HO446 hb) (a_ (bb_ BK429 hb) (a_ (bb_ BK435 hb) (a_ (bb_ BK436 hb) (a_ (bb_ BK442 hb) (a_ (bs_ HB hb) (a_ (Aside0.mk hbox) (a_ (gs_ HB hg) (a_ (gs_ HB hg) (a_ (nl_ BK429 hg) (a_ (ng_ BK429 hg) (a_ (nl_ BK435 hg) (a_ (ng_ BK435 hg) (a_ (nl_ BK436 hg) (a_ (ng_ BK436 hg) (a_ (nl_ BK442 hg) (ng_ BK442 hg)))))))))))))))))))); clear HO424 HO428 HO433 HO440 HO446 BK429 BK435 BK436 BK442 HB; obtain ⟨HO424, HO428, HO433, HO440, HO446, BK429, BK435, BK436, BK442, HB, BK448, GW448, GE448, NB429_448, NB448_429, NB435_448, NB448_435, NB436_448, NB448_436, NB442_448, NB448_442⟩ := n_; clear hb hbox hg; have hnb46 := NB448_429.out; have hnc46 := NB429_448.out; have hnb47 := NB448_435.out; have hnc47 := NB435_448.out; have hnb48 := NB448_436.out; have hnc48 := NB436_448.out; have hnb49 := NB448_442.out; have hnc49 := NB442_448.out; obtain ⟨hcz50_0, hcz50_1, hfz50_0, hfz50_1⟩ := cz2_ BK448; obtain ⟨Ao51, co51, eo51⟩ := Kd.R_slice HO446.out; subst eo51))
 have n0_ : Aside0 (Kd.R k39 39 ((w45.setCell ⟨gb448, 0, none⟩ (.int .i64 t443)).setCell ⟨gb448, 1, none⟩ (.slice Ao51 t444.length co51)) w.heap.size (fun _ => True) (.slice Ao21 y422.length co21) y422) := ⟨by (with_reducible repeat (first | apply Kd.R_alloc | apply Kd.R_drewN | apply Kd.R_drew)); exact Kd.R_mono (Kd.R_far (p := ⟨gb448, 1, none⟩) (Kd.R_far (p := ⟨gb448, 0, none⟩) (Kd.R_types HO424.out BK448.out (by decide)) (fun _ hk => hk.2) (.int .i64 t443)) (fun _ hk => hk.2) (.slice Ao51 t444.length co51)) (fun _ hk => trivial)⟩
 have n1_ : Aside0 (Kd.V (Kd.int .i64) 3 ((w45.setCell ⟨gb448, 0, none⟩ (.int .i64 t443)).setCell ⟨gb448, 1, none⟩ (.slice Ao51 t444.length co51)) w.heap.size (fun k_ => some k_ ≠ (.slice Ao21 y422.length co21 : Value).ownBlock ∧ some k_ ≠ (.slice Ao30 t431.length co30 : Value).ownBlock ∧ some k_ ≠ (.slice Ao42 t438.length co42 : Value).ownBlock ∧ some k_ ≠ (.slice Ao51 t444.length co51 : Value).ownBlock ∧ k_ ≠ gb429 ∧ k_ ≠ gb435 ∧ k_ ≠ gb436 ∧ k_ ≠ gb442 ∧ k_ ≠ gb448) (.slice Ao25 t426.length co25) t426) := ⟨by (with_reducible repeat (first | apply Kd.V_alloc | apply Kd.V_drewN | apply Kd.V_drew)); exact Kd.V_mono (Kd.V_far (p := ⟨gb448, 1, none⟩) (Kd.V_far (p := ⟨gb448, 0, none⟩) (Kd.V_mono HO428.out (fun k_ hk => (⟨hk, hk.2⟩ : _ ∧ k_ ≠ gb448))) (fun _ hk => hk.2) (.int .i64 t443)) (fun _ hk => hk.2) (.slice Ao51 t444.length co51)) (fun _ hk => ⟨hk.1.1.1.1.1.1.1.1.1, ⟨hk.1.1.1.1.1.1.1.2, ⟨hk.1.1.1.1.2, ⟨hk.1.1.2, ⟨hk.1.1.1.1.1.1.1.1.2, ⟨hk.1.1.1.1.1.1.2, ⟨hk.1.1.1.1.1.2, ⟨hk.1.1.1.2, hk.1.2⟩⟩⟩⟩⟩⟩⟩⟩)⟩
 have n2_ : Aside0 (Kd.R (Kd.int .i64) 3 ((w45.setCell ⟨gb448, 0, none⟩ (.int .i64 t443)).setCell ⟨gb448, 1, none⟩ (.slice Ao51 t444.length co51)) w.heap.size (fun k_ => some k_ ≠ (.slice Ao42 t438.length co42 : Value).ownBlock ∧ some k_ ≠ (.slice Ao51 t444.length co51 : Value).ownBlock) (.slice Ao30 t431.length co30) t431) := ⟨by (with_reducible repeat (first | apply Kd.R_alloc | apply Kd.R_drewN | apply Kd.R_drew)); exact Kd.R_mono (Kd.R_far (p := ⟨gb448, 1, none⟩) (Kd.R_far (p := ⟨gb448, 0, none⟩) (Kd.R_types HO433.out BK448.out (by decide)) (fun _ hk => hk.2) (.int .i64 t443)) (fun _ hk => hk.2) (.slice Ao51 t444.length co51)) (fun _ hk => ⟨hk.1.1.2, hk.1.2⟩)⟩
 have n3_ : Aside0 (Kd.R (Kd.int .i64) 3 ((w45.setCell ⟨gb448, 0, none⟩ (.int .i64 t443)).setCell ⟨gb448, 1, none⟩ (.slice Ao51 t444.length co51)) w.heap.size (fun k_ => some k_ ≠ (.slice Ao30 t431.length co30 : Value).ownBlock ∧ some k_ ≠ (.slice Ao51 t444.length co51 : Value).ownBlock) (.slice Ao42 t438.length co42) t438) := ⟨by (with_reducible repeat (first | apply Kd.R_alloc | apply Kd.R_drewN | apply Kd.R_drew)); exact Kd.R_mono (Kd.R_far (p := ⟨gb448, 1, none⟩) (Kd.R_far (p := ⟨gb448, 0, none⟩) (Kd.R_types HO440.out BK448.out (by decide)) (fun _ hk => hk.2) (.int .i64 t443)) (fun _ hk => hk.2) (.slice Ao51 t444.length co51)) (fun _ hk => ⟨hk.1.1.2, hk.1.2⟩)⟩
 have n4_ : Aside0 (Kd.R (Kd.int .i64) 3 ((w45.setCell ⟨gb448, 0, none⟩ (.int .i64 t443)).setCell ⟨gb448, 1, none⟩ (.slice Ao51 t444.length co51)) w.heap.size (fun k_ => some k_ ≠ (.slice Ao30 t431.length co30 : Value).ownBlock ∧ some k_ ≠ (.slice Ao42 t438.length co42 : Value).ownBlock) (.slice Ao51 t444.length co51) t444) := ⟨by (with_reducible repeat (first | apply Kd.R_alloc | apply Kd.R_drewN | apply Kd.R_drew)); exact Kd.R_mono (Kd.R_far (p := ⟨gb448, 1, none⟩) (Kd.R_far (p := ⟨gb448, 0, none⟩) (Kd.R_types HO446.out BK448.out (by decide)) (fun _ hk => hk.2) (.int .i64 t443)) (fun _ hk => hk.2) (.slice Ao51 t444.length co51)) (fun _ hk => ⟨hk.1.1.2, hk.1.2⟩)⟩
 have n5_ : Aside0 (((w45.setCell ⟨gb448, 0, none⟩ (.int .i64 t443)).setCell ⟨gb448, 1, none⟩ (.slice Ao51 t444.length co51)).heap[gb429]? = some (.cells #[.int .i64 t425, .slice Ao25 t426.length co25] 24 (0, 0))) := ⟨by (with_reducible repeat (first | refine blk_drewN ?_ _ | refine blk_drew ?_ | refine blk_alloc ?_ _)); refine blk_far ?_ NB429_448.out _; (with_reducible repeat (first | refine blk_drewN ?_ _ | refine blk_drew ?_ | refine blk_alloc ?_ _)); refine blk_far ?_ NB429_448.out _; (with_reducible repeat (first | refine blk_drewN ?_ _ | refine blk_drew ?_ | refine blk_alloc ?_ _)); exact BK429.out⟩
 have n6_ : Aside0 (((w45.setCell ⟨gb448, 0, none⟩ (.int .i64 t443)).setCell ⟨gb448, 1, none⟩ (.slice Ao51 t444.length co51)).heap[gb435]? = some (.cells #[.int .i64 t430, .slice Ao30 t431.length co30] 24 (0, 0))) := ⟨by (with_reducible repeat (first | refine blk_drewN ?_ _ | refine blk_drew ?_ | refine blk_alloc ?_ _)); refine blk_far ?_ NB435_448.out _; (with_reducible repeat (first | refine blk_drewN ?_ _ | refine blk_drew ?_ | refine blk_alloc ?_ _)); refine blk_far ?_ NB435_448.out _; (with_reducible repeat (first | refine blk_drewN ?_ _ | refine blk_drew ?_ | refine blk_alloc ?_ _)); exact BK435.out⟩
 have n7_ : Aside0 (((w45.setCell ⟨gb448, 0, none⟩ (.int .i64 t443)).setCell ⟨gb448, 1, none⟩ (.slice Ao51 t444.length co51)).heap[gb436]? = some (.cells #[.int .i64 5, .int .i64 1, .int .i64 0, .int .i64 2, .int .i64 0] 26 (0, 0))) := ⟨by (with_reducible repeat (first | refine blk_drewN ?_ _ | refine blk_drew ?_ | refine blk_alloc ?_ _)); refine blk_far ?_ NB436_448.out _; (with_reducible repeat (first | refine blk_drewN ?_ _ | refine blk_drew ?_ | refine blk_alloc ?_ _)); refine blk_far ?_ NB436_448.out _; (with_reducible repeat (first | refine blk_drewN ?_ _ | refine blk_drew ?_ | refine blk_alloc ?_ _)); exact BK436.out⟩
 have n8_ : Aside0 (((w45.setCell ⟨gb448, 0, none⟩ (.int .i64 t443)).setCell ⟨gb448, 1, none⟩ (.slice Ao51 t444.length co51)).heap[gb442]? = some (.cells #[.int .i64 t437, .slice Ao42 t438.length co42] 24 (0, 0))) := ⟨by (with_reducible repeat (first | refine blk_drewN ?_ _ | refine blk_drew ?_ | refine blk_alloc ?_ _)); refine blk_far ?_ NB442_448.out _; (with_reducible repeat (first | refine blk_drewN ?_ _ | refine blk_drew ?_ | refine blk_alloc ?_ _)); refine blk_far ?_ NB442_448.out _; (with_reducible repeat (first | refine blk_drewN ?_ _ | refine blk_drew ?_ | refine blk_alloc ?_ _)); exact BK442.out⟩
 have n9_ : Aside0 (((w45.setCell ⟨gb448, 0, none⟩ (.int .i64 t443)).setCell ⟨gb448, 1, none⟩ (.slice Ao51 t444.length co51)).heap[gb448]? = some (.cells #[.int .i64 t443, .slice Ao51 t444.length co51] 24 (0, 0))) := ⟨by (with_reducible repeat (first | refine blk_drewN ?_ _ | refine blk_drew ?_ | refine blk_alloc ?_ _)); refine blk_put (cs := #[.int .i64 t443, .slice none 0 0]) ?_ 1 _ rfl; (with_reducible repeat (first | refine blk_drewN ?_ _ | refine blk_drew ?_ | refine blk_alloc ?_ _)); refine blk_put (cs := #[.int .i64 0, .slice none 0 0]) ?_ 0 _ rfl; (with_reducible repeat (first | refine blk_drewN ?_ _ | refine blk_drew ?_ | refine blk_alloc ?_ _)); exact BK448.out⟩
 have n10_ : Aside0 (Below w.heap.size w ((w45.setCell ⟨gb448, 0, none⟩ (.int .i64 t443)).setCell ⟨gb448, 1, none⟩ (.slice Ao51 t444.length co51))) := ⟨HB_⟩
 (try clear HO424)
 (try clear HO428)
 (try clear HO433)
 (try clear HO440)
 (try clear HO446)
 (try clear BK429)
 (try clear BK435)
 (try clear BK436)
 (try clear BK442)
 (try clear BK448)
 (try clear HB)
 generalize ((w45.setCell ⟨gb448, 0, none⟩ (.int .i64 t443)).setCell ⟨gb448, 1, none⟩ (.slice Ao51 t444.length co51)) = w52 at n0_ n1_ n2_ n3_ n4_ n5_ n6_ n7_ n8_ n9_ n10_ ⊢
 have HO424 := n0_
 have HO428 := n1_
 have HO433 := n2_
 have HO440 := n3_
 have HO446 := n4_
 have BK429 := n5_
 have BK435 := n6_
 have BK436 := n7_
 have BK442 := n8_
 have BK448 := n9_
 have HB := n10_
 clear n0_ n1_ n2_ n3_ n4_ n5_ n6_ n7_ n8_ n9_ n10_
 have n_ := a_ (Aside0.mk (Kd.R_drew HO424.out)) (a_ (Aside0.mk (Kd.V_drew HO428.out)) (a_ (Aside0.mk (Kd.R_drew HO433.out)) (a_ (Aside0.mk (Kd.R_drew HO440.out)) (a_ (Aside0.mk (Kd.R_drew HO446.out)) (a_ (Aside0.mk (blk_drew BK429.out)) (a_ (Aside0.mk (blk_drew BK435.out)) (a_ (Aside0.mk (blk_drew BK436.out)) (a_ (Aside0.mk (blk_drew BK442.out)) (a_ (Aside0.mk (blk_drew BK448.out)) (Aside0.mk (below_drew1 HB.out)))))))))))
 clear HO424 HO428 HO433 HO440 HO446 BK429 BK435 BK436 BK442 BK448 HB
 obtain ⟨HO424, HO428, HO433, HO440, HO446, BK429, BK435, BK436, BK442, BK448, HB⟩ := n_
 refine start_ (n := 41) (S := fun w' => w'.cell? ⟨gb435, 0, none⟩ = some (.int .i64 t430) ∧ w'.cell? ⟨gb435, 1, none⟩ = some (.slice Ao30 t431.length co30) ∧ w'.cell? ⟨gb442, 0, none⟩ = some (.int .i64 t437) ∧ w'.cell? ⟨gb442, 1, none⟩ = some (.slice Ao42 t438.length co42) ∧ w'.cell? ⟨gb429, 0, none⟩ = some (.int .i64 t425) ∧ w'.cell? ⟨gb429, 1, none⟩ = some (.slice Ao25 t426.length co25) ∧ w'.cell? ⟨gb436, 0, none⟩ = some (.int .i64 5) ∧ w'.cell? ⟨gb436, 1, none⟩ = some (.int .i64 1) ∧ w'.cell? ⟨gb436, 2, none⟩ = some (.int .i64 0) ∧ w'.cell? ⟨gb436, 3, none⟩ = some (.int .i64 2) ∧ w'.cell? ⟨gb436, 4, none⟩ = some (.int .i64 0)) (ds := []) #[false, false, false, false, false, false, false, false, false, false, false, false, false, false, false, false, false, false, false, false, false, false, false, false, false, false, false, false, false, false, false, false, false, false, false, false, false, false, false, false, false] (by kernel_rfl) rfl rfl ⟨(blk_cell BK435.out 0).trans rfl, (blk_cell BK435.out 1).trans rfl, (blk_cell BK442.out 0).trans rfl, (blk_cell BK442.out 1).trans rfl, (blk_cell BK429.out 0).trans rfl, (blk_cell BK429.out 1).trans rfl, (blk_cell BK436.out 0).trans rfl, (blk_cell BK436.out 1).trans rfl, (blk_cell BK436.out 2).trans rfl, (blk_cell BK436.out 3).trans rfl, (blk_cell BK436.out 4).trans rfl⟩ (fun hHeld => ?_); refine with_tabW warrantorlaw14_lives.tab6 warrantorlaw14_lives.bits6 (fun HT_ HW_ => ?_)
 generalize w52.drew = w53 at HO424 HO428 HO433 HO440 HO446 BK429 BK435 BK436 BK442 BK448 HB hHeld ⊢
 refine pure_ (i := 0) (N := some 31) (v := ?_) (a' := ?_) #[true, false, false, false, false, false, false, false, false, false, false, false, false, false, false, false, false, false, false, false, false, false, false, false, false, false, false, false, false, false, false, false, false, false, false, false, false, false, false, false, false] rfl rfl (any_of HT_.out (by kernel_rfl)) (fun _ _ _ h => h) (Or.inl ⟨by rfl, ?_⟩) ?_ ?_
 rotate_left
 · intro w'
   go_simp
   with_reducible rfl
 rotate_left
 · exact AP_
 refine pure_ (i := 1) (N := some 32) (v := ?_) (a' := ?_) #[true, true, false, false, false, false, false, false, false, false, false, false, false, false, false, false, false, false, false, false, false, false, false, false, false, false, false, false, false, false, false, false, false, false, false, false, false, false, false, false, false] rfl rfl (any_of HT_.out (by kernel_rfl)) (fun _ _ _ h => h) (Or.inl ⟨by rfl, ?_⟩) ?_ ?_
 rotate_left
 · intro w'
   go_simp
   with_reducible rfl
 rotate_left
 · exact AP_
 refine pure_ (i := 2) (N := some 33) (v := ?_) (a' := ?_) #[true, true, true, false, false, false, false, false, false, false, false, false, false, false, false, false, false, false, false, false, false, false, false, false, false, false, false, false, false, false, false, false, false, false, false, false, false, false, false, false, false] rfl rfl (any_of HT_.out (by kernel_rfl)) (fun _ _ _ h => h) (Or.inl ⟨by rfl, ?_⟩) ?_ ?_
 rotate_left
 · intro w'
   go_simp
   with_reducible rfl
 rotate_left
 · exact AP_
 refine pure_ (i := 4) (N := some 35) (v := ?_) (a' := ?_) #[true, true, true, false, true, false, false, false, false, false, false, false, false, false, false, false, false, false, false, false, false, false, false, false, false, false, false, false, false, false, false, false, false, false, false, false, false, false, false, false, false] rfl rfl (any_of HT_.out (by kernel_rfl)) (fun _ _ _ h => h) (Or.inl ⟨by rfl, ?_⟩) ?_ ?_
 rotate_left
 · intro w'
   go_simp
   with_reducible rfl
 rotate_left
 · exact AP_
 refine take_ (i := 3) (N := some 34) (v := ?_) (a' := ?_) #[true, true, true, true, true, false, false, false, false, false, false, false, false, false, false, false, false, false, false, false, false, false, false, false, false, false, false, false, false, false, false, false, false, false, false, false, false, false, false, false, false] rfl rfl (take_ofW HT_.out HW_.out (by kernel_rfl)) (fun _ _ _ h => h) (Or.inl ⟨by rfl, ?_⟩) hHeld ?_ ?_
 rotate_left
 · rintro w' ⟨s0, s1, s2, s3, s4, s5, s6, s7, s8, s9, s10⟩
   go_simp
   with_reducible rfl
 rotate_left
 · exact AP_
 refine one_ (i := 5) (N := some 36) #[true, true, true, true, true, true, false, false, false, false, false, false, false, false, false, false, false, false, false, false, false, false, false, false, false, false, false, false, false, false, false, false, false, false, false, false, false, false, false, false, false] rfl rfl (one_of HT_.out (by kernel_rfl)) (by decide) (fun K hK => ?_)
 refine Kd.R_lit_step k39 _ 39 ?hg (N := 36) ?hd (xs := ([(⟨1, 4⟩ : S39)] : List (S39))) (inner := [.int .i64 1, .int .i64 4]) (ok := fun _ => True) (okp := fun _ => True) ?hr ?hp (fun _ hk => hk) trivial (Below.refl _ _) (Nat.le_refl _) (by simp) ?_; (case hd => rfl); (case hg => rfl); (case hr => first | (go_simp; done) | (go_simp; rfl)); (case hp => exact (Reps.c2 (show Kd.M k39 _ _ _ (⟨1, 4⟩ : S39) [.int .i64 1, .int .i64 4] from (k39_mkM _ _ _ (⟨1, 4⟩ : S39) )) (Reps.none _ _)))
 intro v450 w54 ho55 hb hg_ hnew_
 clear hg_ hnew_
 (first | rw [← Ny449.out] at ho55 | (simp only [Int.reduceToNat] at ho55; rw [← Ny449.out] at ho55))
 have n_ := a_ (Aside0.mk (Kd.R_elder' (rd_ HO424.out) (Kd.R_base ho55) hb)) (a_ (Aside0.mk (Kd.V_elder' (by (with_reducible repeat (first | apply Kd.V_alloc | apply Kd.V_drewN | apply Kd.V_drew)); exact HO428.out) (Kd.R_base ho55) hb)) (a_ (rb_ HO433 hb) (a_ (rb_ HO440 hb) (a_ (rb_ HO446 hb) (a_ (Aside0.mk (Kd.R_lower (Kd.R_new' ho55 (Kd.R_lt (rd_ HO424.out))) (below_size HB_))) (a_ (bb_ BK429 hb) (a_ (bb_ BK435 hb) (a_ (bb_ BK436 hb) (a_ (bb_ BK442 hb) (a_ (bb_ BK448 hb) (bs_ HB hb)))))))))))
 clear HO424 HO428 HO433 HO440 HO446 BK429 BK435 BK436 BK442 BK448 HB
 obtain ⟨HO424, HO428, HO433, HO440, HO446, HO451, BK429, BK435, BK436, BK442, BK448, HB⟩ := n_
 clear hb ho55
 obtain ⟨Ao56, co56, eo56⟩ := Kd.R_slice HO451.out
 (first | subst eo56 | (injection eo56 with f1_ f2_ f3_; have f4_ := f1_.symm; have f5_ := f3_.symm; clear f1_ f2_ f3_; subst f4_; subst f5_))
 refine hK.out _ _ ⟨(blk_cell BK435.out 0).trans rfl, (blk_cell BK435.out 1).trans rfl, (blk_cell BK442.out 0).trans rfl, (blk_cell BK442.out 1).trans rfl, (blk_cell BK429.out 0).trans rfl, (blk_cell BK429.out 1).trans rfl, (blk_cell BK436.out 0).trans rfl, (blk_cell BK436.out 1).trans rfl, (blk_cell BK436.out 2).trans rfl, (blk_cell BK436.out 3).trans rfl, (blk_cell BK436.out 4).trans rfl⟩ (fun hHeld => ?_)
 clear hK K
 refine norm_ (a' := ?_) ?_ ?_
 rotate_left
 · show Act.put _ (some 36) _ = _
   simp only [Act.put, List.setIfInBounds_toArray, List.set_cons_zero, List.set_cons_succ, i64_w, i32_w]
   rfl
 refine one_ (i := 6) (N := some 37) #[true, true, true, true, true, true, true, false, false, false, false, false, false, false, false, false, false, false, false, false, false, false, false, false, false, false, false, false, false, false, false, false, false, false, false, false, false, false, false, false, false] rfl rfl (one_of HT_.out (by kernel_rfl)) (by decide) (fun K hK => ?_)
 refine goes_ Try.func51 (by kernel_rfl) rfl #[.slice Ao56 y449.length co56] (by rfl) rfl rfl MP_ ?_
 with_reducible refine (warrantorref09_Box.calls k _ _ y449 t452 t453 _ ?side1 ?side2 A6.out).mono ?_
 (case side1 => repeat (first | exact (Kd.R_reads' HO451.out).2.2 | (with_reducible refine Kd.C_alloc ?_ _) | (with_reducible refine Kd.C_drewN ?_ _) | (with_reducible refine Kd.C_drew ?_)))
 (case side2 => exact (Kd.R_reads' HO451.out).2.1)
 rintro e w57 ⟨v454, rfl, ho0, hb⟩
 refine ⟨_, rfl, ?_⟩
 have n_ := a_ (rb_ HO424 hb) (a_ (Aside0.mk (Kd.V_below (by (with_reducible repeat (first | apply Kd.V_alloc | apply Kd.V_drewN | apply Kd.V_drew)); exact HO428.out) hb)) (a_ (rb_ HO433 hb) (a_ (rb_ HO440 hb) (a_ (rb_ HO446 hb) (a_ (rb_ HO451 hb) (a_ (Aside0.mk (Kd.V_lower (Kd.V_mono (ok' := fun k_ => some k_ ≠ (.slice Ao21 y422.length co21 : Value).ownBlock ∧ some k_ ≠ (.slice Ao30 t431.length co30 : Value).ownBlock ∧ some k_ ≠ (.slice Ao42 t438.length co42 : Value).ownBlock ∧ some k_ ≠ (.slice Ao51 t444.length co51 : Value).ownBlock ∧ some k_ ≠ (.slice Ao56 y449.length co56 : Value).ownBlock ∧ k_ ≠ gb429 ∧ k_ ≠ gb435 ∧ k_ ≠ gb436 ∧ k_ ≠ gb442 ∧ k_ ≠ gb448) ho0 (fun k_ hk_ => ⟨(Kd.fresh' (Kd.R_lt (rd_ HO424.out)) k_ hk_), (Kd.fresh' (Kd.R_lt (rd_ HO433.out)) k_ hk_), (Kd.fresh' (Kd.R_lt (rd_ HO440.out)) k_ hk_), (Kd.fresh' (Kd.R_lt (rd_ HO446.out)) k_ hk_), (Kd.fresh' (Kd.R_lt (rd_ HO451.out)) k_ hk_), (Kd.freshB (g := gb429) (o := .cells #[.int .i64 t425, .slice Ao25 t426.length co25] 24 (0, 0)) (bk_ BK429.out) k_ hk_), (Kd.freshB (g := gb435) (o := .cells #[.int .i64 t430, .slice Ao30 t431.length co30] 24 (0, 0)) (bk_ BK435.out) k_ hk_), (Kd.freshB (g := gb436) (o := .cells #[.int .i64 5, .int .i64 1, .int .i64 0, .int .i64 2, .int .i64 0] 26 (0, 0)) (bk_ BK436.out) k_ hk_), (Kd.freshB (g := gb442) (o := .cells #[.int .i64 t437, .slice Ao42 t438.length co42] 24 (0, 0)) (bk_ BK442.out) k_ hk_), (Kd.freshB (g := gb448) (o := .cells #[.int .i64 t443, .slice Ao51 t444.length co51] 24 (0, 0)) (bk_ BK448.out) k_ hk_)⟩)) (below_size HB_))) (a_ (bb_ BK429 hb) (a_ (bb_ BK435 hb) (a_ (bb_ BK436 hb) (a_ (bb_ BK442 hb) (a_ (bb_ BK448 hb) (bs_ HB hb))))))))))))
 clear HO424 HO428 HO433 HO440 HO446 HO451 BK429 BK435 BK436 BK442 BK448 HB
 obtain ⟨HO424, HO428, HO433, HO440, HO446, HO451, HO455, BK429, BK435, BK436, BK442, BK448, HB⟩ := n_
 (try clear hb)
 (try clear hb2)
 (try clear hk)
 (try clear hi)
 (try clear ho0)
 obtain ⟨Ao58, co58, eo58⟩ := Kd.V_slice HO455.out
 (first | subst eo58 | (injection eo58 with f1_ f2_ f3_; have f4_ := f1_.symm; have f5_ := f3_.symm; clear f1_ f2_ f3_; subst f4_; subst f5_))
 refine hK.out _ _ ⟨(blk_cell BK435.out 0).trans rfl, (blk_cell BK435.out 1).trans rfl, (blk_cell BK442.out 0).trans rfl, (blk_cell BK442.out 1).trans rfl, (blk_cell BK429.out 0).trans rfl, (blk_cell BK429.out 1).trans rfl, (blk_cell BK436.out 0).trans rfl, (blk_cell BK436.out 1).trans rfl, (blk_cell BK436.out 2).trans rfl, (blk_cell BK436.out 3).trans rfl, (blk_cell BK436.out 4).trans rfl⟩ (fun hHeld => ?_)
 clear hK K
 refine norm_ (a' := ?_) ?_ ?_
 rotate_left
 · show Act.put _ (some 37) _ = _
   simp only [Act.put, List.setIfInBounds_toArray, List.set_cons_zero, List.set_cons_succ, i64_w, i32_w]
   rfl
 refine one_ (i := 7) (N := some 38) #[true, true, true, true, true, true, true, true, false, false, false, false, false, false, false, false, false, false, false, false, false, false, false, false, false, false, false, false, false, false, false, false, false, false, false, false, false, false, false, false, false] rfl rfl (one_of HT_.out (by kernel_rfl)) (by decide) (fun K hK => ?_)
 refine goes_ Try.func17 (by kernel_rfl) rfl #[.agg #[.int .i64 t430, .slice Ao30 t431.length co30], .agg #[.int .i64 t452, .slice Ao58 t453.length co58]] (by rfl) rfl rfl MP_ ?_
 with_reducible refine (warrantorref08_Same.calls k t430 _ _ t431 t452 _ _ t453 true _ ?side1 ?side2 ?side3 ?side4 A7.out).mono ?_
 (case side1 => repeat (first | exact (Kd.R_reads' HO433.out).2.2 | (with_reducible refine Kd.C_alloc ?_ _) | (with_reducible refine Kd.C_drewN ?_ _) | (with_reducible refine Kd.C_drew ?_)))
 (case side2 => exact (Kd.R_reads' HO433.out).2.1)
 (case side3 => repeat (first | exact (Kd.V_reads' HO455.out).2.2 | (with_reducible refine Kd.C_alloc ?_ _) | (with_reducible refine Kd.C_drewN ?_ _) | (with_reducible refine Kd.C_drew ?_)))
 (case side4 => exact (Kd.V_reads' HO455.out).2.1)
 rintro e w59 ⟨rfl, hb⟩
 refine ⟨_, rfl, ?_⟩
 have n_ := a_ (rb_ HO424 hb) (a_ (Aside0.mk (Kd.V_below (by (with_reducible repeat (first | apply Kd.V_alloc | apply Kd.V_drewN | apply Kd.V_drew)); exact HO428.out) hb)) (a_ (rb_ HO433 hb) (a_ (rb_ HO440 hb) (a_ (rb_ HO446 hb) (a_ (rb_ HO451 hb) (a_ (Aside0.mk (Kd.V_below (by (with_reducible repeat (first | apply Kd.V_alloc | apply Kd.V_drewN | apply Kd.V_drew)); exact HO455.out) hb)) (a_ (bb_ BK429 hb) (a_ (bb_ BK435 hb) (a_ (bb_ BK436 hb) (a_ (bb_ BK442 hb) (a_ (bb_ BK448 hb) (bs_ HB hb))))))))))))
 clear HO424 HO428 HO433 HO440 HO446 HO451 HO455 BK429 BK435 BK436 BK442 BK448 HB
 obtain ⟨HO424, HO428, HO433, HO440, HO446, HO451, HO455, BK429, BK435, BK436, BK442, BK448, HB⟩ := n_
 (try clear hb)
 (try clear hb2)
 (try clear hk)
 (try clear hi)
 refine hK.out _ _ ⟨(blk_cell BK435.out 0).trans rfl, (blk_cell BK435.out 1).trans rfl, (blk_cell BK442.out 0).trans rfl, (blk_cell BK442.out 1).trans rfl, (blk_cell BK429.out 0).trans rfl, (blk_cell BK429.out 1).trans rfl, (blk_cell BK436.out 0).trans rfl, (blk_cell BK436.out 1).trans rfl, (blk_cell BK436.out 2).trans rfl, (blk_cell BK436.out 3).trans rfl, (blk_cell BK436.out 4).trans rfl⟩ (fun hHeld => ?_)
 clear hK K
 refine norm_ (a' := ?_) ?_ ?_
 rotate_left
 · show Act.put _ (some 38) _ = _
   simp only [Act.put, List.setIfInBounds_toArray, List.set_cons_zero, List.set_cons_succ, i64_w, i32_w]
   rfl
 refine pure_ (i := 8) (N := some 39) (v := ?_) (a' := ?_) #[true, true, true, true, true, true, true, true, true, false, false, false, false, false, false, false, false, false, false, false, false, false, false, false, false, false, false, false, false, false, false, false, false, false, false, false, false, false, false, false, false] rfl rfl (any_of HT_.out (by kernel_rfl)) (fun _ _ _ h => h) (Or.inl ⟨by rfl, ?_⟩) ?_ ?_
 rotate_left
 · intro w'
   go_simp
   with_reducible rfl
 rotate_left
 · exact AP_
 refine pure_ (i := 9) (N := some 40) (v := ?_) (a' := ?_) #[true, true, true, true, true, true, true, true, true, true, false, false, false, false, false, false, false, false, false, false, false, false, false, false, false, false, false, false, false, false, false, false, false, false, false, false, false, false, false, false, false] rfl rfl (any_of HT_.out (by kernel_rfl)) (fun _ _ _ h => h) (Or.inl ⟨by rfl, ?_⟩) ?_ ?_
 rotate_left
 · intro w'
   go_simp
   with_reducible rfl
 rotate_left
 · exact AP_
 refine pure_ (i := 10) (N := some 41) (v := ?_) (a' := ?_) #[true, true, true, true, true, true, true, true, true, true, true, false, false, false, false, false, false, false, false, false, false, false, false, false, false, false, false, false, false, false, false, false, false, false, false, false, false, false, false, false, false] rfl rfl (any_of HT_.out (by kernel_rfl)) (fun _ _ _ h => h) (Or.inl ⟨by rfl, ?_⟩) ?_ ?_
 rotate_left
 · intro w'
   go_simp
   with_reducible rfl
 rotate_left
 · exact AP_
 refine pure_ (i := 11) (N := some 42) (v := ?_) (a' := ?_) #[true, true, true, true, true, true, true, true, true, true, true, true, false, false, false, false, false, false, false, false, false, false, false, false, false, false, false, false, false, false, false, false, false, false, false, false, false, false, false, false, false] rfl rfl (any_of HT_.out (by kernel_rfl)) (fun _ _ _ h => h) (Or.inl ⟨by rfl, ?_⟩) ?_ ?_
 rotate_left
 · intro w'
   go_simp
   with_reducible rfl
 rotate_left
 · exact AP_
 refine pure_ (i := 12) (N := some 43) (v := ?_) (a' := ?_) #[true, true, true, true, true, true, true, true, true, true, true, true, true, false, false, false, false, false, false, false, false, false, false, false, false, false, false, false, false, false, false, false, false, false, false, false, false, false, false, false, false] rfl rfl (any_of HT_.out (by kernel_rfl)) (fun _ _ _ h => h) (Or.inl ⟨by rfl, ?_⟩) ?_ ?_
 rotate_left
 · intro w'
   go_simp
   with_reducible rfl
 rotate_left
 · exact AP_
 refine pure_ (i := 13) (N := some 44) (v := ?_) (a' := ?_) #[true, true, true, true, true, true, true, true, true, true, true, true, true, true, false, false, false, false, false, false, false, false, false, false, false, false, false, false, false, false, false, false, false, false, false, false, false, false, false, false, false] rfl rfl (any_of HT_.out (by kernel_rfl)) (fun _ _ _ h => h) (Or.inl ⟨by rfl, ?_⟩) ?_ ?_
 rotate_left
 · intro w'
   go_simp
   with_reducible rfl
 rotate_left
 · exact AP_
 refine pure_ (i := 15) (N := some 46) (v := ?_) (a' := ?_) #[true, true, true, true, true, true, true, true, true, true, true, true, true, true, false, true, false, false, false, false, false, false, false, false, false, false, false, false, false, false, false, false, false, false, false, false, false, false, false, false, false] rfl rfl (any_of HT_.out (by kernel_rfl)) (fun _ _ _ h => h) (Or.inl ⟨by rfl, ?_⟩) ?_ ?_
 rotate_left
 · intro w'
   go_simp
   with_reducible rfl
 rotate_left
 · exact AP_
 refine take_ (i := 14) (N := some 45) (v := ?_) (a' := ?_) #[true, true, true, true, true, true, true, true, true, true, true, true, true, true, true, true, false, false, false, false, false, false, false, false, false, false, false, false, false, false, false, false, false, false, false, false, false, false, false, false, false] rfl rfl (take_ofW HT_.out HW_.out (by kernel_rfl)) (fun _ _ _ h => h) (Or.inl ⟨by rfl, ?_⟩) hHeld ?_ ?_
 rotate_left
 · rintro w' ⟨s0, s1, s2, s3, s4, s5, s6, s7, s8, s9, s10⟩
   go_simp
   with_reducible rfl
 rotate_left
 · exact AP_
 refine one_ (i := 16) (N := some 47) #[true, true, true, true, true, true, true, true, true, true, true, true, true, true, true, true, true, false, false, false, false, false, false, false, false, false, false, false, false, false, false, false, false, false, false, false, false, false, false, false, false] rfl rfl (one_of HT_.out (by kernel_rfl)) (by decide) (fun K hK => ?_)
 refine Kd.R_lit_step k39 _ 39 ?hg (N := 47) ?hd (xs := ([(⟨3, 3⟩ : S39)] : List (S39))) (inner := [.int .i64 3, .int .i64 3]) (ok := fun _ => True) (okp := fun _ => True) ?hr ?hp (fun _ hk => hk) trivial (Below.refl _ _) (Nat.le_refl _) (by simp) ?_; (case hd => rfl); (case hg => rfl); (case hr => first | (go_simp; done) | (go_simp; rfl)); (case hp => exact (Reps.c2 (show Kd.M k39 _ _ _ (⟨3, 3⟩ : S39) [.int .i64 3, .int .i64 3] from (k39_mkM _ _ _ (⟨3, 3⟩ : S39) )) (Reps.none _ _)))
 intro v458 w60 ho61 hb hg_ hnew_
 clear hg_ hnew_
 (first | rw [← Ny457.out] at ho61 | (simp only [Int.reduceToNat] at ho61; rw [← Ny457.out] at ho61))
 have n_ := a_ (Aside0.mk (Kd.R_elder' (rd_ HO424.out) (Kd.R_base ho61) hb)) (a_ (Aside0.mk (Kd.V_elder' (by (with_reducible repeat (first | apply Kd.V_alloc | apply Kd.V_drewN | apply Kd.V_drew)); exact HO428.out) (Kd.R_base ho61) hb)) (a_ (rb_ HO433 hb) (a_ (rb_ HO440 hb) (a_ (rb_ HO446 hb) (a_ (Aside0.mk (Kd.R_elder' (rd_ HO451.out) (Kd.R_base ho61) hb)) (a_ (Aside0.mk (Kd.V_elder' (by (with_reducible repeat (first | apply Kd.V_alloc | apply Kd.V_drewN | apply Kd.V_drew)); exact HO455.out) (Kd.R_base ho61) hb)) (a_ (Aside0.mk (Kd.R_lower (Kd.R_new' (Kd.R_new' ho61 (Kd.R_lt (rd_ HO424.out))) (Kd.R_lt (rd_ HO451.out))) (below_size HB_))) (a_ (bb_ BK429 hb) (a_ (bb_ BK435 hb) (a_ (bb_ BK436 hb) (a_ (bb_ BK442 hb) (a_ (bb_ BK448 hb) (bs_ HB hb)))))))))))))
 clear HO424 HO428 HO433 HO440 HO446 HO451 HO455 BK429 BK435 BK436 BK442 BK448 HB
 obtain ⟨HO424, HO428, HO433, HO440, HO446, HO451, HO455, HO459, BK429, BK435, BK436, BK442, BK448, HB⟩ := n_
 clear hb ho61
 obtain ⟨Ao62, co62, eo62⟩ := Kd.R_slice HO459.out
 (first | subst eo62 | (injection eo62 with f1_ f2_ f3_; have f4_ := f1_.symm; have f5_ := f3_.symm; clear f1_ f2_ f3_; subst f4_; subst f5_))
 refine hK.out _ _ ⟨(blk_cell BK435.out 0).trans rfl, (blk_cell BK435.out 1).trans rfl, (blk_cell BK442.out 0).trans rfl, (blk_cell BK442.out 1).trans rfl, (blk_cell BK429.out 0).trans rfl, (blk_cell BK429.out 1).trans rfl, (blk_cell BK436.out 0).trans rfl, (blk_cell BK436.out 1).trans rfl, (blk_cell BK436.out 2).trans rfl, (blk_cell BK436.out 3).trans rfl, (blk_cell BK436.out 4).trans rfl⟩ (fun hHeld => ?_)
 clear hK K
 refine norm_ (a' := ?_) ?_ ?_
 rotate_left
 · show Act.put _ (some 47) _ = _
   simp only [Act.put, List.setIfInBounds_toArray, List.set_cons_zero, List.set_cons_succ, i64_w, i32_w]
   rfl
 refine one_ (i := 17) (N := some 48) #[true, true, true, true, true, true, true, true, true, true, true, true, true, true, true, true, true, true, false, false, false, false, false, false, false, false, false, false, false, false, false, false, false, false, false, false, false, false, false, false, false] rfl rfl (one_of HT_.out (by kernel_rfl)) (by decide) (fun K hK => ?_)
 refine goes_ Try.func51 (by kernel_rfl) rfl #[.slice Ao62 y457.length co62] (by rfl) rfl rfl MP_ ?_
 with_reducible refine (warrantorref09_Box.calls k _ _ y457 t460 t461 _ ?side1 ?side2 A10.out).mono ?_
 (case side1 => repeat (first | exact (Kd.R_reads' HO459.out).2.2 | (with_reducible refine Kd.C_alloc ?_ _) | (with_reducible refine Kd.C_drewN ?_ _) | (with_reducible refine Kd.C_drew ?_)))
 (case side2 => exact (Kd.R_reads' HO459.out).2.1)
 rintro e w63 ⟨v462, rfl, ho0, hb⟩
 refine ⟨_, rfl, ?_⟩
 have n_ := a_ (rb_ HO424 hb) (a_ (Aside0.mk (Kd.V_below (by (with_reducible repeat (first | apply Kd.V_alloc | apply Kd.V_drewN | apply Kd.V_drew)); exact HO428.out) hb)) (a_ (rb_ HO433 hb) (a_ (rb_ HO440 hb) (a_ (rb_ HO446 hb) (a_ (rb_ HO451 hb) (a_ (Aside0.mk (Kd.V_below (by (with_reducible repeat (first | apply Kd.V_alloc | apply Kd.V_drewN | apply Kd.V_drew)); exact HO455.out) hb)) (a_ (rb_ HO459 hb) (a_ (Aside0.mk (Kd.V_lower (Kd.V_mono (ok' := fun k_ => some k_ ≠ (.slice Ao21 y422.length co21 : Value).ownBlock ∧ some k_ ≠ (.slice Ao30 t431.length co30 : Value).ownBlock ∧ some k_ ≠ (.slice Ao42 t438.length co42 : Value).ownBlock ∧ some k_ ≠ (.slice Ao51 t444.length co51 : Value).ownBlock ∧ some k_ ≠ (.slice Ao56 y449.length co56 : Value).ownBlock ∧ some k_ ≠ (.slice Ao62 y457.length co62 : Value).ownBlock ∧ k_ ≠ gb429 ∧ k_ ≠ gb435 ∧ k_ ≠ gb436 ∧ k_ ≠ gb442 ∧ k_ ≠ gb448) ho0 (fun k_ hk_ => ⟨(Kd.fresh' (Kd.R_lt (rd_ HO424.out)) k_ hk_), (Kd.fresh' (Kd.R_lt (rd_ HO433.out)) k_ hk_), (Kd.fresh' (Kd.R_lt (rd_ HO440.out)) k_ hk_), (Kd.fresh' (Kd.R_lt (rd_ HO446.out)) k_ hk_), (Kd.fresh' (Kd.R_lt (rd_ HO451.out)) k_ hk_), (Kd.fresh' (Kd.R_lt (rd_ HO459.out)) k_ hk_), (Kd.freshB (g := gb429) (o := .cells #[.int .i64 t425, .slice Ao25 t426.length co25] 24 (0, 0)) (bk_ BK429.out) k_ hk_), (Kd.freshB (g := gb435) (o := .cells #[.int .i64 t430, .slice Ao30 t431.length co30] 24 (0, 0)) (bk_ BK435.out) k_ hk_), (Kd.freshB (g := gb436) (o := .cells #[.int .i64 5, .int .i64 1, .int .i64 0, .int .i64 2, .int .i64 0] 26 (0, 0)) (bk_ BK436.out) k_ hk_), (Kd.freshB (g := gb442) (o := .cells #[.int .i64 t437, .slice Ao42 t438.length co42] 24 (0, 0)) (bk_ BK442.out) k_ hk_), (Kd.freshB (g := gb448) (o := .cells #[.int .i64 t443, .slice Ao51 t444.length co51] 24 (0, 0)) (bk_ BK448.out) k_ hk_)⟩)) (below_size HB_))) (a_ (bb_ BK429 hb) (a_ (bb_ BK435 hb) (a_ (bb_ BK436 hb) (a_ (bb_ BK442 hb) (a_ (bb_ BK448 hb) (bs_ HB hb))))))))))))))
 clear HO424 HO428 HO433 HO440 HO446 HO451 HO455 HO459 BK429 BK435 BK436 BK442 BK448 HB
 obtain ⟨HO424, HO428, HO433, HO440, HO446, HO451, HO455, HO459, HO463, BK429, BK435, BK436, BK442, BK448, HB⟩ := n_
 (try clear hb)
 (try clear hb2)
 (try clear hk)
 (try clear hi)
 (try clear ho0)
 obtain ⟨Ao64, co64, eo64⟩ := Kd.V_slice HO463.out
 (first | subst eo64 | (injection eo64 with f1_ f2_ f3_; have f4_ := f1_.symm; have f5_ := f3_.symm; clear f1_ f2_ f3_; subst f4_; subst f5_))
 refine hK.out _ _ ⟨(blk_cell BK435.out 0).trans rfl, (blk_cell BK435.out 1).trans rfl, (blk_cell BK442.out 0).trans rfl, (blk_cell BK442.out 1).trans rfl, (blk_cell BK429.out 0).trans rfl, (blk_cell BK429.out 1).trans rfl, (blk_cell BK436.out 0).trans rfl, (blk_cell BK436.out 1).trans rfl, (blk_cell BK436.out 2).trans rfl, (blk_cell BK436.out 3).trans rfl, (blk_cell BK436.out 4).trans rfl⟩ (fun hHeld => ?_)
 clear hK K
 refine norm_ (a' := ?_) ?_ ?_
 rotate_left
 · show Act.put _ (some 48) _ = _
   simp only [Act.put, List.setIfInBounds_toArray, List.set_cons_zero, List.set_cons_succ, i64_w, i32_w]
   rfl
 refine one_ (i := 18) (N := some 49) #[true, true, true, true, true, true, true, true, true, true, true, true, true, true, true, true, true, true, true, false, false, false, false, false, false, false, false, false, false, false, false, false, false, false, false, false, false, false, false, false, false] rfl rfl (one_of HT_.out (by kernel_rfl)) (by decide) (fun K hK => ?_)
 refine goes_ Try.func17 (by kernel_rfl) rfl #[.agg #[.int .i64 t437, .slice Ao42 t438.length co42], .agg #[.int .i64 t460, .slice Ao64 t461.length co64]] (by rfl) rfl rfl MP_ ?_
 with_reducible refine (warrantorref08_Same.calls k t437 _ _ t438 t460 _ _ t461 true _ ?side1 ?side2 ?side3 ?side4 A11.out).mono ?_
 (case side1 => repeat (first | exact (Kd.R_reads' HO440.out).2.2 | (with_reducible refine Kd.C_alloc ?_ _) | (with_reducible refine Kd.C_drewN ?_ _) | (with_reducible refine Kd.C_drew ?_)))
 (case side2 => exact (Kd.R_reads' HO440.out).2.1)
 (case side3 => repeat (first | exact (Kd.V_reads' HO463.out).2.2 | (with_reducible refine Kd.C_alloc ?_ _) | (with_reducible refine Kd.C_drewN ?_ _) | (with_reducible refine Kd.C_drew ?_)))
 (case side4 => exact (Kd.V_reads' HO463.out).2.1)
 rintro e w65 ⟨rfl, hb⟩
 refine ⟨_, rfl, ?_⟩
 have n_ := a_ (rb_ HO424 hb) (a_ (Aside0.mk (Kd.V_below (by (with_reducible repeat (first | apply Kd.V_alloc | apply Kd.V_drewN | apply Kd.V_drew)); exact HO428.out) hb)) (a_ (rb_ HO433 hb) (a_ (rb_ HO440 hb) (a_ (rb_ HO446 hb) (a_ (rb_ HO451 hb) (a_ (Aside0.mk (Kd.V_below (by (with_reducible repeat (first | apply Kd.V_alloc | apply Kd.V_drewN | apply Kd.V_drew)); exact HO455.out) hb)) (a_ (rb_ HO459 hb) (a_ (Aside0.mk (Kd.V_below (by (with_reducible repeat (first | apply Kd.V_alloc | apply Kd.V_drewN | apply Kd.V_drew)); exact HO463.out) hb)) (a_ (bb_ BK429 hb) (a_ (bb_ BK435 hb) (a_ (bb_ BK436 hb) (a_ (bb_ BK442 hb) (a_ (bb_ BK448 hb) (bs_ HB hb))))))))))))))
 clear HO424 HO428 HO433 HO440 HO446 HO451 HO455 HO459 HO463 BK429 BK435 BK436 BK442 BK448 HB
 obtain ⟨HO424, HO428, HO433, HO440, HO446, HO451, HO455, HO459, HO463, BK429, BK435, BK436, BK442, BK448, HB⟩ := n_
 (try clear hb)
 (try clear hb2)
 (try clear hk)
 (try clear hi)
 refine hK.out _ _ ⟨(blk_cell BK435.out 0).trans rfl, (blk_cell BK435.out 1).trans rfl, (blk_cell BK442.out 0).trans rfl, (blk_cell BK442.out 1).trans rfl, (blk_cell BK429.out 0).trans rfl, (blk_cell BK429.out 1).trans rfl, (blk_cell BK436.out 0).trans rfl, (blk_cell BK436.out 1).trans rfl, (blk_cell BK436.out 2).trans rfl, (blk_cell BK436.out 3).trans rfl, (blk_cell BK436.out 4).trans rfl⟩ (fun hHeld => ?_)
 clear hK K
 refine norm_ (a' := ?_) ?_ ?_
 rotate_left
 · show Act.put _ (some 49) _ = _
   simp only [Act.put, List.setIfInBounds_toArray, List.set_cons_zero, List.set_cons_succ, i64_w, i32_w]
   rfl
 refine pure_ (i := 19) (N := some 50) (v := ?_) (a' := ?_) #[true, true, true, true, true, true, true, true, true, true, true, true, true, true, true, true, true, true, true, true, false, false, false, false, false, false, false, false, false, false, false, false, false, false, false, false, false, false, false, false, false] rfl rfl (any_of HT_.out (by kernel_rfl)) (fun _ _ _ h => h) (Or.inl ⟨by rfl, ?_⟩) ?_ ?_
 rotate_left
 · intro w'
   go_simp
   with_reducible rfl
 rotate_left
 · exact AP_
 refine pure_ (i := 20) (N := some 51) (v := ?_) (a' := ?_) #[true, true, true, true, true, true, true, true, true, true, true, true, true, true, true, true, true, true, true, true, true, false, false, false, false, false, false, false, false, false, false, false, false, false, false, false, false, false, false, false, false] rfl rfl (any_of HT_.out (by kernel_rfl)) (fun _ _ _ h => h) (Or.inl ⟨by rfl, ?_⟩) ?_ ?_
 rotate_left
 · intro w'
   go_simp
   with_reducible rfl
 rotate_left
 · exact AP_
 refine pure_ (i := 21) (N := some 52) (v := ?_) (a' := ?_) #[true, true, true, true, true, true, true, true, true, true, true, true, true, true, true, true, true, true, true, true, true, true, false, false, false, false, false, false, false, false, false, false, false, false, false, false, false, false, false, false, false] rfl rfl (any_of HT_.out (by kernel_rfl)) (fun _ _ _ h => h) (Or.inl ⟨by rfl, ?_⟩) ?_ ?_
 rotate_left
 · intro w'
   go_simp
   with_reducible rfl
 rotate_left
 · exact AP_
 refine pure_ (i := 22) (N := some 53) (v := ?_) (a' := ?_) #[true, true, true, true, true, true, true, true, true, true, true, true, true, true, true, true, true, true, true, true, true, true, true, false, false, false, false, false, false, false, false, false, false, false, false, false, false, false, false, false, false] rfl rfl (any_of HT_.out (by kernel_rfl)) (fun _ _ _ h => h) (Or.inl ⟨by rfl, ?_⟩) ?_ ?_
 rotate_left
 · intro w'
   go_simp
   with_reducible rfl
 rotate_left
 · exact AP_
 refine pure_ (i := 23) (N := some 54) (v := ?_) (a' := ?_) #[true, true, true, true, true, true, true, true, true, true, true, true, true, true, true, true, true, true, true, true, true, true, true, true, false, false, false, false, false, false, false, false, false, false, false, false, false, false, false, false, false] rfl rfl (any_of HT_.out (by kernel_rfl)) (fun _ _ _ h => h) (Or.inl ⟨by rfl, ?_⟩) ?_ ?_
 rotate_left
 · intro w'
   go_simp
   with_reducible rfl
 rotate_left
 · exact AP_
 refine pure_ (i := 24) (N := some 55) (v := ?_) (a' := ?_) #[true, true, true, true, true, true, true, true, true, true, true, true, true, true, true, true, true, true, true, true, true, true, true, true, true, false, false, false, false, false, false, false, false, false, false, false, false, false, false, false, false] rfl rfl (any_of HT_.out (by kernel_rfl)) (fun _ _ _ h => h) (Or.inl ⟨by rfl, ?_⟩) ?_ ?_
 rotate_left
 · intro w'
   go_simp
   with_reducible rfl
 rotate_left
 · exact AP_
 refine take_ (i := 25) (N := some 56) (v := ?_) (a' := ?_) #[true, true, true, true, true, true, true, true, true, true, true, true, true, true, true, true, true, true, true, true, true, true, true, true, true, true, false, false, false, false, false, false, false, false, false, false, false, false, false, false, false] rfl rfl (take_ofW HT_.out HW_.out (by kernel_rfl)) (fun _ _ _ h => h) (Or.inl ⟨by rfl, ?_⟩) hHeld ?_ ?_
 rotate_left
 · rintro w' ⟨s0, s1, s2, s3, s4, s5, s6, s7, s8, s9, s10⟩
   go_simp
   with_reducible rfl
 rotate_left
 · exact AP_
 refine take_ (i := 26) (N := some 57) (v := ?_) (a' := ?_) #[true, true, true, true, true, true, true, true, true, true, true, true, true, true, true, true, true, true, true, true, true, true, true, true, true, true, true, false, false, false, false, false, false, false, false, false, false, false, false, false, false] rfl rfl (take_ofW HT_.out HW_.out (by kernel_rfl)) (fun _ _ _ h => h) (Or.inl ⟨by rfl, ?_⟩) hHeld ?_ ?_
 rotate_left
 · rintro w' ⟨s0, s1, s2, s3, s4, s5, s6, s7, s8, s9, s10⟩
   go_simp
   with_reducible rfl
 rotate_left
 · exact AP_
 refine one_ (i := 27) (N := some 58) #[true, true, true, true, true, true, true, true, true, true, true, true, true, true, true, true, true, true, true, true, true, true, true, true, true, true, true, true, false, false, false, false, false, false, false, false, false, false, false, false, false] rfl rfl (one_of HT_.out (by kernel_rfl)) (by decide) (fun K hK => ?_)
 refine goes_ Try.func18 (by kernel_rfl) rfl #[.agg #[.int .i64 t425, .slice Ao25 t426.length co25], .agg #[.int .i64 5, .int .i64 1, .int .i64 0, .int .i64 2, .int .i64 0]] (by rfl) rfl rfl MP_ ?_
 with_reducible refine (post_May.calls k t425 _ _ t426 5 1 0 2 0 true _ ?side1 ?side2 A14.out).mono ?_
 (case side1 => repeat (first | exact (Kd.V_reads' HO428.out).2.2 | (with_reducible refine Kd.C_alloc ?_ _) | (with_reducible refine Kd.C_drewN ?_ _) | (with_reducible refine Kd.C_drew ?_)))
 (case side2 => exact (Kd.V_reads' HO428.out).2.1)
 rintro e w66 ⟨rfl, hb⟩
 refine ⟨_, rfl, ?_⟩
 have n_ := a_ (rb_ HO424 hb) (a_ (Aside0.mk (Kd.V_below (by (with_reducible repeat (first | apply Kd.V_alloc | apply Kd.V_drewN | apply Kd.V_drew)); exact HO428.out) hb)) (a_ (rb_ HO433 hb) (a_ (rb_ HO440 hb) (a_ (rb_ HO446 hb) (a_ (rb_ HO451 hb) (a_ (Aside0.mk (Kd.V_below (by (with_reducible repeat (first | apply Kd.V_alloc | apply Kd.V_drewN | apply Kd.V_drew)); exact HO455.out) hb)) (a_ (rb_ HO459 hb) (a_ (Aside0.mk (Kd.V_below (by (with_reducible repeat (first | apply Kd.V_alloc | apply Kd.V_drewN | apply Kd.V_drew)); exact HO463.out) hb)) (a_ (bb_ BK429 hb) (a_ (bb_ BK435 hb) (a_ (bb_ BK436 hb) (a_ (bb_ BK442 hb) (a_ (bb_ BK448 hb) (bs_ HB hb))))))))))))))
 clear HO424 HO428 HO433 HO440 HO446 HO451 HO455 HO459 HO463 BK429 BK435 BK436 BK442 BK448 HB
 obtain ⟨HO424, HO428, HO433, HO440, HO446, HO451, HO455, HO459, HO463, BK429, BK435, BK436, BK442, BK448, HB⟩ := n_
 (try clear hb)
 (try clear hb2)
 (try clear hk)
 (try clear hi)
 refine hK.out _ _ ⟨(blk_cell BK435.out 0).trans rfl, (blk_cell BK435.out 1).trans rfl, (blk_cell BK442.out 0).trans rfl, (blk_cell BK442.out 1).trans rfl, (blk_cell BK429.out 0).trans rfl, (blk_cell BK429.out 1).trans rfl, (blk_cell BK436.out 0).trans rfl, (blk_cell BK436.out 1).trans rfl, (blk_cell BK436.out 2).trans rfl, (blk_cell BK436.out 3).trans rfl, (blk_cell BK436.out 4).trans rfl⟩ (fun hHeld => ?_)
 clear hK K
 refine norm_ (a' := ?_) ?_ ?_
 rotate_left
 · show Act.put _ (some 58) _ = _
   simp only [Act.put, List.setIfInBounds_toArray, List.set_cons_zero, List.set_cons_succ, i64_w, i32_w]
   rfl
 refine pure_ (i := 28) (N := some 59) (v := ?_) (a' := ?_) #[true, true, true, true, true, true, true, true, true, true, true, true, true, true, true, true, true, true, true, true, true, true, true, true, true, true, true, true, true, false, false, false, false, false, false, false, false, false, false, false, false] rfl rfl (any_of HT_.out (by kernel_rfl)) (fun _ _ _ h => h) (Or.inl ⟨by rfl, ?_⟩) ?_ ?_
 rotate_left
 · intro w'
   go_simp
   with_reducible rfl
 rotate_left
 · exact AP_
 refine pure_ (i := 29) (N := some 60) (v := ?_) (a' := ?_) #[true, true, true, true, true, true, true, true, true, true, true, true, true, true, true, true, true, true, true, true, true, true, true, true, true, true, true, true, true, true, false, false, false, false, false, false, false, false, false, false, false] rfl rfl (any_of HT_.out (by kernel_rfl)) (fun _ _ _ h => h) (Or.inl ⟨by rfl, ?_⟩) ?_ ?_
 rotate_left
 · intro w'
   go_simp
   with_reducible rfl
 rotate_left
 · exact AP_
 refine take_ (i := 30) (N := some 61) (v := ?_) (a' := ?_) #[true, true, true, true, true, true, true, true, true, true, true, true, true, true, true, true, true, true, true, true, true, true, true, true, true, true, true, true, true, true, true, false, false, false, false, false, false, false, false, false, false] rfl rfl (take_ofW HT_.out HW_.out (by kernel_rfl)) (fun _ _ _ h => h) (Or.inl ⟨by rfl, ?_⟩) hHeld ?_ ?_
 rotate_left
 · rintro w' ⟨s0, s1, s2, s3, s4, s5, s6, s7, s8, s9, s10⟩
   go_simp
   with_reducible rfl
 rotate_left
 · exact AP_
 refine take_ (i := 31) (N := some 62) (v := ?_) (a' := ?_) #[true, true, true, true, true, true, true, true, true, true, true, true, true, true, true, true, true, true, true, true, true, true, true, true, true, true, true, true, true, true, true, true, false, false, false, false, false, false, false, false, false] rfl rfl (take_ofW HT_.out HW_.out (by kernel_rfl)) (fun _ _ _ h => h) (Or.inl ⟨by rfl, ?_⟩) hHeld ?_ ?_
 rotate_left
 · rintro w' ⟨s0, s1, s2, s3, s4, s5, s6, s7, s8, s9, s10⟩
   go_simp
   with_reducible rfl
 rotate_left
 · exact AP_
 refine one_ (i := 32) (N := some 63) #[true, true, true, true, true, true, true, true, true, true, true, true, true, true, true, true, true, true, true, true, true, true, true, true, true, true, true, true, true, true, true, true, true, false, false, false, false, false, false, false, false] rfl rfl (one_of HT_.out (by kernel_rfl)) (by decide) (fun K hK => ?_)
 refine goes_ Try.func19 (by kernel_rfl) rfl #[.agg #[.int .i64 t425, .slice Ao25 t426.length co25], .agg #[.int .i64 5, .int .i64 1, .int .i64 0, .int .i64 2, .int .i64 0]] (by rfl) rfl rfl MP_ ?_
 with_reducible refine (post_Must.calls k t425 _ _ t426 5 1 0 2 0 false _ ?side1 ?side2 A16.out).mono ?_
 (case side1 => repeat (first | exact (Kd.V_reads' HO428.out).2.2 | (with_reducible refine Kd.C_alloc ?_ _) | (with_reducible refine Kd.C_drewN ?_ _) | (with_reducible refine Kd.C_drew ?_)))
 (case side2 => exact (Kd.V_reads' HO428.out).2.1)
 rintro e w67 ⟨rfl, hb⟩
 refine ⟨_, rfl, ?_⟩
 have n_ := a_ (rb_ HO424 hb) (a_ (Aside0.mk (Kd.V_below (by (with_reducible repeat (first | apply Kd.V_alloc | apply Kd.V_drewN | apply Kd.V_drew)); exact HO428.out) hb)) (a_ (rb_ HO433 hb) (a_ (rb_ HO440 hb) (a_ (rb_ HO446 hb) (a_ (rb_ HO451 hb) (a_ (Aside0.mk (Kd.V_below (by (with_reducible repeat (first | apply Kd.V_alloc | apply Kd.V_drewN | apply Kd.V_drew)); exact HO455.out) hb)) (a_ (rb_ HO459 hb) (a_ (Aside0.mk (Kd.V_below (by (with_reducible repeat (first | apply Kd.V_alloc | apply Kd.V_drewN | apply Kd.V_drew)); exact HO463.out) hb)) (a_ (bb_ BK429 hb) (a_ (bb_ BK435 hb) (a_ (bb_ BK436 hb) (a_ (bb_ BK442 hb) (a_ (bb_ BK448 hb) (bs_ HB hb))))))))))))))
 clear HO424 HO428 HO433 HO440 HO446 HO451 HO455 HO459 HO463 BK429 BK435 BK436 BK442 BK448 HB
 obtain ⟨HO424, HO428, HO433, HO440, HO446, HO451, HO455, HO459, HO463, BK429, BK435, BK436, BK442, BK448, HB⟩ := n_
 (try clear hb)
 (try clear hb2)
 (try clear hk)
 (try clear hi)
 refine hK.out _ _ ⟨(blk_cell BK435.out 0).trans rfl, (blk_cell BK435.out 1).trans rfl, (blk_cell BK442.out 0).trans rfl, (blk_cell BK442.out 1).trans rfl, (blk_cell BK429.out 0).trans rfl, (blk_cell BK429.out 1).trans rfl, (blk_cell BK436.out 0).trans rfl, (blk_cell BK436.out 1).trans rfl, (blk_cell BK436.out 2).trans rfl, (blk_cell BK436.out 3).trans rfl, (blk_cell BK436.out 4).trans rfl⟩ (fun hHeld => ?_)
 clear hK K
 refine norm_ (a' := ?_) ?_ ?_
 rotate_left
 · show Act.put _ (some 63) _ = _
   simp only [Act.put, List.setIfInBounds_toArray, List.set_cons_zero, List.set_cons_succ, i64_w, i32_w]
   rfl
 refine pure_ (i := 33) (N := some 64) (v := ?_) (a' := ?_) #[true, true, true, true, true, true, true, true, true, true, true, true, true, true, true, true, true, true, true, true, true, true, true, true, true, true, true, true, true, true, true, true, true, true, false, false, false, false, false, false, false] rfl rfl (any_of HT_.out (by kernel_rfl)) (fun _ _ _ h => h) (Or.inl ⟨by rfl, ?_⟩) ?_ ?_
 rotate_left
 · intro w'
   go_simp
   with_reducible rfl
 rotate_left
 · exact AP_
 refine pure_ (i := 34) (N := some 65) (v := ?_) (a' := ?_) #[true, true, true, true, true, true, true, true, true, true, true, true, true, true, true, true, true, true, true, true, true, true, true, true, true, true, true, true, true, true, true, true, true, true, true, false, false, false, false, false, false] rfl rfl (any_of HT_.out (by kernel_rfl)) (fun _ _ _ h => h) (Or.inl ⟨by rfl, ?_⟩) ?_ ?_
 rotate_left
 · intro w'
   go_simp
   with_reducible rfl
 rotate_left
 · exact AP_
 refine pure_ (i := 35) (N := some 66) (v := ?_) (a' := ?_) #[true, true, true, true, true, true, true, true, true, true, true, true, true, true, true, true, true, true, true, true, true, true, true, true, true, true, true, true, true, true, true, true, true, true, true, true, false, false, false, false, false] rfl rfl (any_of HT_.out (by kernel_rfl)) (fun _ _ _ h => h) (Or.inl ⟨by rfl, ?_⟩) ?_ ?_
 rotate_left
 · intro w'
   go_simp
   with_reducible rfl
 rotate_left
 · exact AP_
 refine take_ (i := 36) (N := some 67) (v := ?_) (a' := ?_) #[true, true, true, true, true, true, true, true, true, true, true, true, true, true, true, true, true, true, true, true, true, true, true, true, true, true, true, true, true, true, true, true, true, true, true, true, true, false, false, false, false] rfl rfl (take_ofW HT_.out HW_.out (by kernel_rfl)) (fun _ _ _ h => h) (Or.inl ⟨by rfl, ?_⟩) hHeld ?_ ?_
 rotate_left
 · rintro w' ⟨s0, s1, s2, s3, s4, s5, s6, s7, s8, s9, s10⟩
   go_simp
   with_reducible rfl
 rotate_left
 · exact AP_
 refine take_ (i := 37) (N := some 68) (v := ?_) (a' := ?_) #[true, true, true, true, true, true, true, true, true, true, true, true, true, true, true, true, true, true, true, true, true, true, true, true, true, true, true, true, true, true, true, true, true, true, true, true, true, true, false, false, false] rfl rfl (take_ofW HT_.out HW_.out (by kernel_rfl)) (fun _ _ _ h => h) (Or.inl ⟨by rfl, ?_⟩) hHeld ?_ ?_
 rotate_left
 · rintro w' ⟨s0, s1, s2, s3, s4, s5, s6, s7, s8, s9, s10⟩
   go_simp
   with_reducible rfl
 rotate_left
 · exact AP_
 refine one_ (i := 38) (N := some 69) #[true, true, true, true, true, true, true, true, true, true, true, true, true, true, true, true, true, true, true, true, true, true, true, true, true, true, true, true, true, true, true, true, true, true, true, true, true, true, true, false, false] rfl rfl (one_of HT_.out (by kernel_rfl)) (by decide) (fun K hK => ?_)
 refine goes_ Try.func19 (by kernel_rfl) rfl #[.agg #[.int .i64 t437, .slice Ao42 t438.length co42], .agg #[.int .i64 5, .int .i64 1, .int .i64 0, .int .i64 2, .int .i64 0]] (by rfl) rfl rfl MP_ ?_
 with_reducible refine (post_Must.calls k t437 _ _ t438 5 1 0 2 0 t467 _ ?side1 ?side2 A18.out).mono ?_
 (case side1 => repeat (first | exact (Kd.R_reads' HO440.out).2.2 | (with_reducible refine Kd.C_alloc ?_ _) | (with_reducible refine Kd.C_drewN ?_ _) | (with_reducible refine Kd.C_drew ?_)))
 (case side2 => exact (Kd.R_reads' HO440.out).2.1)
 rintro e w68 ⟨rfl, hb⟩
 refine ⟨_, rfl, ?_⟩
 have n_ := a_ (rb_ HO424 hb) (a_ (Aside0.mk (Kd.V_below (by (with_reducible repeat (first | apply Kd.V_alloc | apply Kd.V_drewN | apply Kd.V_drew)); exact HO428.out) hb)) (a_ (rb_ HO433 hb) (a_ (rb_ HO440 hb) (a_ (rb_ HO446 hb) (a_ (rb_ HO451 hb) (a_ (Aside0.mk (Kd.V_below (by (with_reducible repeat (first | apply Kd.V_alloc | apply Kd.V_drewN | apply Kd.V_drew)); exact HO455.out) hb)) (a_ (rb_ HO459 hb) (a_ (Aside0.mk (Kd.V_below (by (with_reducible repeat (first | apply Kd.V_alloc | apply Kd.V_drewN | apply Kd.V_drew)); exact HO463.out) hb)) (a_ (bb_ BK429 hb) (a_ (bb_ BK435 hb) (a_ (bb_ BK436 hb) (a_ (bb_ BK442 hb) (a_ (bb_ BK448 hb) (bs_ HB hb))))))))))))))
 clear HO424 HO428 HO433 HO440 HO446 HO451 HO455 HO459 HO463 BK429 BK435 BK436 BK442 BK448 HB
 obtain ⟨HO424, HO428, HO433, HO440, HO446, HO451, HO455, HO459, HO463, BK429, BK435, BK436, BK442, BK448, HB⟩ := n_
 (try clear hb)
 (try clear hb2)
 (try clear hk)
 (try clear hi)
 refine hK.out _ _ ⟨(blk_cell BK435.out 0).trans rfl, (blk_cell BK435.out 1).trans rfl, (blk_cell BK442.out 0).trans rfl, (blk_cell BK442.out 1).trans rfl, (blk_cell BK429.out 0).trans rfl, (blk_cell BK429.out 1).trans rfl, (blk_cell BK436.out 0).trans rfl, (blk_cell BK436.out 1).trans rfl, (blk_cell BK436.out 2).trans rfl, (blk_cell BK436.out 3).trans rfl, (blk_cell BK436.out 4).trans rfl⟩ (fun hHeld => ?_)
 clear hK K
 refine norm_ (a' := ?_) ?_ ?_
 rotate_left
 · show Act.put _ (some 69) _ = _
   simp only [Act.put, List.setIfInBounds_toArray, List.set_cons_zero, List.set_cons_succ, i64_w, i32_w]
   rfl
 refine pure_ (i := 39) (N := some 70) (v := ?_) (a' := ?_) #[true, true, true, true, true, true, true, true, true, true, true, true, true, true, true, true, true, true, true, true, true, true, true, true, true, true, true, true, true, true, true, true, true, true, true, true, true, true, true, true, false] rfl rfl (any_of HT_.out (by kernel_rfl)) (fun _ _ _ h => h) (Or.inl ⟨by rfl, ?_⟩) ?_ ?_
 rotate_left
 · intro w'
   go_simp
   with_reducible rfl
 rotate_left
 · exact AP_
 refine pure_ (i := 40) (N := some 0) (v := ?_) (a' := ?_) #[true, true, true, true, true, true, true, true, true, true, true, true, true, true, true, true, true, true, true, true, true, true, true, true, true, true, true, true, true, true, true, true, true, true, true, true, true, true, true, true, true] rfl rfl (any_of HT_.out (by kernel_rfl)) (fun _ _ _ h => h) (Or.inl ⟨by rfl, ?_⟩) ?_ ?_
 rotate_left
 · intro w'
   go_simp
   with_reducible rfl
 rotate_left
 · exact AP_
 refine done_ (done_of HT_.out (by kernel_rfl)) ?_
 try go_wp2
 go_ret
 exact ⟨by first | rfl | (simp [errW_none, errW_some] <;> rfl) | (simp [*, errW_none, errW_some] <;> rfl), HB_⟩
end Go.Proofs.Ytgeemdpflcefkaa.Y

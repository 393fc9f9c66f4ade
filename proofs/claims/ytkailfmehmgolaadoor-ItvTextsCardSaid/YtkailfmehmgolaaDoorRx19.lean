-- WRITTEN BY this session's program wip/ext.py, in print.py's manner
import Derived.Test.YtkailfmehmgolaaDoorRx0
import Derived.Test.YtkailfmehmgolaaDoorRx15
namespace Go.Proofs.YtkailfmehmgolaaDoor.R
open Go.RowKit Go.Proofs.YtkailfmehmgolaaDoorW.PrintWords Go.Proofs.YtkailfmehmgolaaDoorW.PrintLast Go.Proofs.YtkailfmehmgolaaDoorW.PrintMore
attribute [local go_sem] max2_int min2_int max_two min_two max_three min_three max_four min_four   -- for this text's walks alone
set_option linter.unusedVariables false
set_option linter.unusedSimpArgs false

/-! ### warrantorref07_Widen: function 30 -/
def warrantorref07_Widen.f (k : Nat) (a0_0 : Int) (a0_1 : Int) (a1_0 : Int) (a1_1 : Int) : Option (Int × Int) := (warrantorref07_Plain.f k a0_0 a0_1).bind fun bt363 => ((warrantorref07_Plain.f k a1_0 a1_1).bind fun bt365 => ((warrantorref07_empty.f k bt363.1 bt363.2).bind fun t367 => (if t367 = true then (some (bt365.1, bt365.2)) else ((warrantorref07_empty.f k bt365.1 bt365.2).bind fun t368 => (if t368 = true then (some (bt363.1, bt363.2)) else (if bt365.1 < bt363.1 then (if bt365.2 > bt363.2 then (some ((-1099511627776), 1099511627776)) else (some ((-1099511627776), bt363.2))) else (if bt365.2 > bt363.2 then (some (bt363.1, 1099511627776)) else (some (bt363.1, bt363.2)))))))))
theorem warrantorref07_Widen.mono : ∀ a0 a1 a2 a3 k, LeO (warrantorref07_Widen.f k a0 a1 a2 a3) (warrantorref07_Widen.f (k + 1) a0 a1 a2 a3) := by
  intro a0 a1 a2 a3 k
  unfold warrantorref07_Widen.f
  repeat' first
      | (with_reducible exact warrantorref07_Plain.mono _ _ _)
      | (with_reducible exact warrantorref07_empty.mono _ _ _)
      | (with_reducible exact LeO.refl _)
      | (with_reducible exact LeO.none _)
      | (with_reducible refine LeO.ite ?_ ?_)
      | (with_reducible refine LeO.bind ?_ (fun _ => ?_))
      | exact warrantorref07_Plain.mono _ _ _
      | exact warrantorref07_empty.mono _ _ _
      | exact LeO.none _
      | refine LeO.ite ?_ ?_
      | refine LeO.bind ?_ (fun _ => ?_)
set_option maxHeartbeats 8000000 in
set_option maxRecDepth 100000 in
theorem warrantorref07_Widen.calls (k : Nat) (a0_0 : Int) (a0_1 : Int) (a1_0 : Int) (a1_1 : Int) (r1 : Int) (r2 : Int) (w : World) (h : warrantorref07_Widen.f k a0_0 a0_1 a1_0 a1_1 = some (r1, r2)) :
    Calls Tryd.prog 30 #[.agg #[.int .i64 a0_0, .int .i64 a0_1], .agg #[.int .i64 a1_0, .int .i64 a1_1]] w fun e w' => e = .returned (.agg #[.int .i64 r1, .int .i64 r2]) ∧ Below w.heap.size w w' := by
  have hu23 := Tryd.underlying23
  have HB := Aside0.mk (Below.refl w.heap.size w)
  have H : ((warrantorref07_Plain.f k a0_0 a0_1).bind fun bt363 => ((warrantorref07_Plain.f k a1_0 a1_1).bind fun bt365 => ((warrantorref07_empty.f k bt363.1 bt363.2).bind fun t367 => (if t367 = true then (some (bt365.1, bt365.2)) else ((warrantorref07_empty.f k bt365.1 bt365.2).bind fun t368 => (if t368 = true then (some (bt363.1, bt363.2)) else (if bt365.1 < bt363.1 then (if bt365.2 > bt363.2 then (some ((-1099511627776), 1099511627776)) else (some ((-1099511627776), bt363.2))) else (if bt365.2 > bt363.2 then (some (bt363.1, 1099511627776)) else (some (bt363.1, bt363.2)))))))))) = some (r1, r2) := h
  clear h
  replace H := Option.bind_eq_some_iff.mp H
  obtain ⟨⟨t363, t364⟩, A30, H⟩ := H
  replace H : ((warrantorref07_Plain.f k a1_0 a1_1).bind fun bt365 => ((warrantorref07_empty.f k t363 t364).bind fun t367 => (if t367 = true then (some (bt365.1, bt365.2)) else ((warrantorref07_empty.f k bt365.1 bt365.2).bind fun t368 => (if t368 = true then (some (t363, t364)) else (if bt365.1 < t363 then (if bt365.2 > t364 then (some ((-1099511627776), 1099511627776)) else (some ((-1099511627776), t364))) else (if bt365.2 > t364 then (some (t363, 1099511627776)) else (some (t363, t364))))))))) = some (r1, r2) := H
  have A3 := Aside0.mk A30
  clear A30
  replace H := Option.bind_eq_some_iff.mp H
  obtain ⟨⟨t365, t366⟩, A40, H⟩ := H
  replace H : ((warrantorref07_empty.f k t363 t364).bind fun t367 => (if t367 = true then (some (t365, t366)) else ((warrantorref07_empty.f k t365 t366).bind fun t368 => (if t368 = true then (some (t363, t364)) else (if t365 < t363 then (if t366 > t364 then (some ((-1099511627776), 1099511627776)) else (some ((-1099511627776), t364))) else (if t366 > t364 then (some (t363, 1099511627776)) else (some (t363, t364)))))))) = some (r1, r2) := H
  have A4 := Aside0.mk A40
  clear A40
  replace H := Option.bind_eq_some_iff.mp H
  obtain ⟨t367, A50, H⟩ := H
  replace H : (if t367 = true then (some (t365, t366)) else ((warrantorref07_empty.f k t365 t366).bind fun t368 => (if t368 = true then (some (t363, t364)) else (if t365 < t363 then (if t366 > t364 then (some ((-1099511627776), 1099511627776)) else (some ((-1099511627776), t364))) else (if t366 > t364 then (some (t363, 1099511627776)) else (some (t363, t364))))))) = some (r1, r2) := H
  have A5 := Aside0.mk A50
  clear A50
  by_cases c6 : t367 = true
  · subst c6
    have H1 : (some (t365, t366)) = some (r1, r2) := by rw [if_pos rfl] at H; exact H
    clear H
    have H := H1
    clear H1
    simp only [Option.some.injEq, Prod.mk.injEq] at H
    obtain ⟨rfl, rfl⟩ := H
    go_enter Tryd.func30, Tryd.ntmps30
    try go_wp2_with (first | ((with_reducible refine gate_dst (N := 2) rfl ?_); refine box_event ?hg (N := 2) ?hd (cs := #[.int .i64 a0_0, .int .i64 a0_1]) (t := 23) ?hr ?_; (case hd => rfl); (case hg => rfl); (case hr => first | (go_simp; done) | (go_simp; rfl)); intro gb360 hg w7 hbox hb; have n0_ := Aside0.mk (below_step HB_ hb); have n1_ := Aside0.mk (hbox); have n2_ := Aside0.mk ((by rw [hg]; exact (below_size HB_) : w.heap.size ≤ gb360)); have n3_ := Aside0.mk ((by rw [hg]; exact (below_size HB_) : w.heap.size ≤ gb360)); clear HB; have HB := n0_; have BK360 := n1_; have GW360 := n2_; have GE360 := n3_; clear n0_ n1_ n2_ n3_; clear hb hbox hg) | ((with_reducible refine gate_dst (N := 3) rfl ?_); refine box_event ?hg (N := 3) ?hd (cs := #[.int .i64 a1_0, .int .i64 a1_1]) (t := 23) ?hr ?_; (case hd => rfl); (case hg => rfl); (case hr => first | (go_simp; done) | (go_simp; rfl)); intro gb361 hg w8 hbox hb; have n0_ := Aside0.mk (blk_below (g := gb360) (o := .cells #[.int .i64 a0_0, .int .i64 a0_1] 23 (0, 0)) (bk_ BK360.out) hb); have n1_ := Aside0.mk (below_step HB_ hb); have n2_ := Aside0.mk (hbox); have n3_ := Aside0.mk ((by rw [hg]; exact (below_size HB_) : w.heap.size ≤ gb361)); have n4_ := Aside0.mk ((by rw [hg]; exact (below_size HB_) : w.heap.size ≤ gb361)); have n5_ := Aside0.mk ((by rw [hg]; exact Nat.ne_of_lt (blk_lt (g := gb360) (o := .cells #[.int .i64 a0_0, .int .i64 a0_1] 23 (0, 0)) (bk_ BK360.out)) : gb360 ≠ gb361)); have n6_ := Aside0.mk ((by rw [hg]; exact Nat.ne_of_gt (blk_lt (g := gb360) (o := .cells #[.int .i64 a0_0, .int .i64 a0_1] 23 (0, 0)) (bk_ BK360.out)) : gb361 ≠ gb360)); clear BK360; clear HB; have BK360 := n0_; have HB := n1_; have BK361 := n2_; have GW361 := n3_; have GE361 := n4_; have NB360_361 := n5_; have NB361_360 := n6_; clear n0_ n1_ n2_ n3_ n4_ n5_ n6_; clear hb hbox hg) | ((with_reducible refine gate_dst (N := 4) rfl ?_); refine box_event ?hg (N := 4) ?hd (cs := #[.int .i64 0, .int .i64 0]) (t := 23) ?hr ?_; (case hd => rfl); (case hg => rfl); (case hr => first | (go_simp; done) | (go_simp; rfl)); intro gb362 hg w9 hbox hb; have n0_ := Aside0.mk (blk_below (g := gb360) (o := .cells #[.int .i64 a0_0, .int .i64 a0_1] 23 (0, 0)) (bk_ BK360.out) hb); have n1_ := Aside0.mk (blk_below (g := gb361) (o := .cells #[.int .i64 a1_0, .int .i64 a1_1] 23 (0, 0)) (bk_ BK361.out) hb); have n2_ := Aside0.mk (below_step HB_ hb); have n3_ := Aside0.mk (hbox); have n4_ := Aside0.mk ((by rw [hg]; exact (below_size HB_) : w.heap.size ≤ gb362)); have n5_ := Aside0.mk ((by rw [hg]; exact (below_size HB_) : w.heap.size ≤ gb362)); have n6_ := Aside0.mk ((by rw [hg]; exact Nat.ne_of_lt (blk_lt (g := gb360) (o := .cells #[.int .i64 a0_0, .int .i64 a0_1] 23 (0, 0)) (bk_ BK360.out)) : gb360 ≠ gb362)); have n7_ := Aside0.mk ((by rw [hg]; exact Nat.ne_of_gt (blk_lt (g := gb360) (o := .cells #[.int .i64 a0_0, .int .i64 a0_1] 23 (0, 0)) (bk_ BK360.out)) : gb362 ≠ gb360)); have n8_ := Aside0.mk ((by rw [hg]; exact Nat.ne_of_lt (blk_lt (g := gb361) (o := .cells #[.int .i64 a1_0, .int .i64 a1_1] 23 (0, 0)) (bk_ BK361.out)) : gb361 ≠ gb362)); have n9_ := Aside0.mk ((by rw [hg]; exact Nat.ne_of_gt (blk_lt (g := gb361) (o := .cells #[.int .i64 a1_0, .int .i64 a1_1] 23 (0, 0)) (bk_ BK361.out)) : gb362 ≠ gb361)); clear BK360; clear BK361; clear HB; have BK360 := n0_; have BK361 := n1_; have HB := n2_; have BK362 := n3_; have GW362 := n4_; have GE362 := n5_; have NB360_362 := n6_; have NB362_360 := n7_; have NB361_362 := n8_; have NB362_361 := n9_; clear n0_ n1_ n2_ n3_ n4_ n5_ n6_ n7_ n8_ n9_; clear hb hbox hg))
    first | (obtain ⟨w9, hq_⟩ : ∃ x, x = w9.drewN nd := ⟨_, rfl⟩; rw [← hq_]; have q0_ := Aside0.mk (blk_drewN BK360.out nd); rw [← hq_] at q0_; have q1_ := Aside0.mk (blk_drewN BK361.out nd); rw [← hq_] at q1_; have q2_ := Aside0.mk (blk_drewN BK362.out nd); rw [← hq_] at q2_; have q3_ := Aside0.mk (pw_below_drewN HB.out nd); rw [← hq_] at q3_; clear BK360; clear BK361; clear BK362; clear HB; have BK360 := q0_; have BK361 := q1_; have BK362 := q2_; have HB := q3_; clear hq_ q0_ q1_ q2_ q3_) | skip
    have n0_ := Aside0.mk (blk_drew BK360.out)
    have n1_ := Aside0.mk (blk_drew BK361.out)
    have n2_ := Aside0.mk (blk_drew BK362.out)
    have n3_ := Aside0.mk (below_drew1 HB.out)
    clear BK360
    clear BK361
    clear BK362
    clear HB
    have BK360 := n0_
    have BK361 := n1_
    have BK362 := n2_
    have HB := n3_
    clear n0_ n1_ n2_ n3_
    refine start_ (n := 6) (S := fun w' => w'.cell? ⟨gb360, 0, none⟩ = some (.int .i64 a0_0) ∧ w'.cell? ⟨gb360, 1, none⟩ = some (.int .i64 a0_1) ∧ w'.cell? ⟨gb361, 0, none⟩ = some (.int .i64 a1_0) ∧ w'.cell? ⟨gb361, 1, none⟩ = some (.int .i64 a1_1)) (ds := [4, 5]) #[false, false, false, false, false, false] (by kernel_rfl) rfl rfl ⟨(blk_cell BK360.out 0).trans rfl, (blk_cell BK360.out 1).trans rfl, (blk_cell BK361.out 0).trans rfl, (blk_cell BK361.out 1).trans rfl⟩ (fun hHeld => ?_)
    generalize w9.drew = w10 at BK360 BK361 BK362 HB hHeld ⊢
    refine take_ (i := 0) (N := some 5) (v := ?_) (a' := ?_) #[true, false, false, false, false, false] rfl rfl (by kernel_rfl) (fun _ _ _ h => h) (Or.inl ⟨by rfl, ?_⟩) hHeld ?_ ?_
    rotate_left
    · rintro w' ⟨s0, s1, s2, s3⟩
      go_simp
      with_reducible rfl
    rotate_left
    · exact AP_
    refine take_ (i := 2) (N := some 7) (v := ?_) (a' := ?_) #[true, false, true, false, false, false] rfl rfl (by kernel_rfl) (fun _ _ _ h => h) (Or.inl ⟨by rfl, ?_⟩) hHeld ?_ ?_
    rotate_left
    · rintro w' ⟨s0, s1, s2, s3⟩
      go_simp
      with_reducible rfl
    rotate_left
    · exact AP_
    refine one_ (i := 1) (N := some 6) #[true, true, true, false, false, false] rfl rfl (by kernel_rfl) (by decide) (fun K hK => ?_)
    refine goes_ Tryd.func10 (by kernel_rfl) rfl #[.agg #[.int .i64 a0_0, .int .i64 a0_1]] (by rfl) rfl rfl MP_ ?_
    with_reducible refine (warrantorref07_Plain.calls k a0_0 a0_1 t363 t364 _ A3.out).mono ?_
    rintro e w11 ⟨rfl, hb⟩
    refine ⟨_, rfl, ?_⟩
    have n0_ := Aside0.mk (blk_below (g := gb360) (o := .cells #[.int .i64 a0_0, .int .i64 a0_1] 23 (0, 0)) (bk_ BK360.out) hb)
    have n1_ := Aside0.mk (blk_below (g := gb361) (o := .cells #[.int .i64 a1_0, .int .i64 a1_1] 23 (0, 0)) (bk_ BK361.out) hb)
    have n2_ := Aside0.mk (blk_below (g := gb362) (o := .cells #[.int .i64 0, .int .i64 0] 23 (0, 0)) (bk_ BK362.out) hb)
    have n3_ := Aside0.mk (below_step HB_ hb)
    clear BK360
    clear BK361
    clear BK362
    clear HB
    have BK360 := n0_
    have BK361 := n1_
    have BK362 := n2_
    have HB := n3_
    clear n0_ n1_ n2_ n3_
    (try clear hb)
    (try clear hb2)
    (try clear hk)
    (try clear hi)
    refine hK.out _ _ ⟨(blk_cell BK360.out 0).trans rfl, (blk_cell BK360.out 1).trans rfl, (blk_cell BK361.out 0).trans rfl, (blk_cell BK361.out 1).trans rfl⟩ (fun hHeld => ?_)
    clear hK K
    refine norm_ (a' := ?_) ?_ ?_
    rotate_left
    · show Act.put _ (some 6) _ = _
      simp only [Act.put, List.setIfInBounds_toArray, List.set_cons_zero, List.set_cons_succ, i64_w, i32_w]
      rfl
    refine one_ (i := 3) (N := some 8) #[true, true, true, true, false, false] rfl rfl (by kernel_rfl) (by decide) (fun K hK => ?_)
    refine goes_ Tryd.func10 (by kernel_rfl) rfl #[.agg #[.int .i64 a1_0, .int .i64 a1_1]] (by rfl) rfl rfl MP_ ?_
    with_reducible refine (warrantorref07_Plain.calls k a1_0 a1_1 t365 t366 _ A4.out).mono ?_
    rintro e w12 ⟨rfl, hb⟩
    refine ⟨_, rfl, ?_⟩
    have n0_ := Aside0.mk (blk_below (g := gb360) (o := .cells #[.int .i64 a0_0, .int .i64 a0_1] 23 (0, 0)) (bk_ BK360.out) hb)
    have n1_ := Aside0.mk (blk_below (g := gb361) (o := .cells #[.int .i64 a1_0, .int .i64 a1_1] 23 (0, 0)) (bk_ BK361.out) hb)
    have n2_ := Aside0.mk (blk_below (g := gb362) (o := .cells #[.int .i64 0, .int .i64 0] 23 (0, 0)) (bk_ BK362.out) hb)
    have n3_ := Aside0.mk (below_step HB_ hb)
    clear BK360
    clear BK361
    clear BK362
    clear HB
    have BK360 := n0_
    have BK361 := n1_
    have BK362 := n2_
    have HB := n3_
    clear n0_ n1_ n2_ n3_
    (try clear hb)
    (try clear hb2)
    (try clear hk)
    (try clear hi)
    refine hK.out _ _ ⟨(blk_cell BK360.out 0).trans rfl, (blk_cell BK360.out 1).trans rfl, (blk_cell BK361.out 0).trans rfl, (blk_cell BK361.out 1).trans rfl⟩ (fun hHeld => ?_)
    clear hK K
    refine norm_ (a' := ?_) ?_ ?_
    rotate_left
    · show Act.put _ (some 8) _ = _
      simp only [Act.put, List.setIfInBounds_toArray, List.set_cons_zero, List.set_cons_succ, i64_w, i32_w]
      rfl
    refine last_ (i := 4) (N := none) #[true, true, true, true, true, false] rfl rfl (by kernel_rfl) (by decide) (fun K hK => ?_)
    have hs13 : w12.cell? ⟨gb360, 0, none⟩ = some (.int .i64 a0_0) := (blk_cell BK360.out 0).trans rfl
    have hfs13 := blk_frozen BK360.out 0
    have hns13_1 := NB361_360.out
    have hns13_2 := NB362_360.out
    have hms13_1 := NB360_361.out
    have hms13_2 := NB360_362.out
    have hs14 : w12.cell? ⟨gb360, 1, none⟩ = some (.int .i64 a0_1) := (blk_cell BK360.out 1).trans rfl
    have hfs14 := blk_frozen BK360.out 1
    have hns14_1 := NB361_360.out
    have hns14_2 := NB362_360.out
    have hms14_1 := NB360_361.out
    have hms14_2 := NB360_362.out
    refine skip_ (w1 := ?_) (by rfl) rfl ?_ ?_
    rotate_left
    · go_simp
      rfl
    refine hK.out _ _ ?_
    clear hK K
    refine last_ (i := 5) (N := none) #[true, true, true, true, true, true] rfl rfl (by kernel_rfl) (by decide) (fun K hK => ?_)
    have hs15 : w12.cell? ⟨gb361, 0, none⟩ = some (.int .i64 a1_0) := (blk_cell BK361.out 0).trans rfl
    have hfs15 := blk_frozen BK361.out 0
    have hns15_0 := NB360_361.out
    have hns15_2 := NB362_361.out
    have hms15_0 := NB361_360.out
    have hms15_2 := NB361_362.out
    have hs16 : w12.cell? ⟨gb361, 1, none⟩ = some (.int .i64 a1_1) := (blk_cell BK361.out 1).trans rfl
    have hfs16 := blk_frozen BK361.out 1
    have hns16_0 := NB360_361.out
    have hns16_2 := NB362_361.out
    have hms16_0 := NB361_360.out
    have hms16_2 := NB361_362.out
    refine skip_ (w1 := ?_) (by rfl) rfl ?_ ?_
    rotate_left
    · go_simp
      rfl
    refine hK.out _ _ ?_
    clear hK K
    refine done_ (by kernel_rfl) ?_
    have hnb17 := NB360_361.out
    have hnc17 := NB361_360.out
    have hnb18 := NB360_362.out
    have hnc18 := NB362_360.out
    have hcz19_0 : w12.cell? ⟨gb360, 0, none⟩ = some (.int .i64 a0_0) := (blk_cell BK360.out 0).trans rfl
    have hcz19_1 : w12.cell? ⟨gb360, 1, none⟩ = some (.int .i64 a0_1) := (blk_cell BK360.out 1).trans rfl
    have hfz19_0 := blk_frozen BK360.out 0
    have hfz19_1 := blk_frozen BK360.out 1
    try go_wp2_with (first | ((with_reducible refine gate_callee (f := 40) rfl ?_); refine goesL_ (some 11) rfl rfl Tryd.func40 (by kernel_rfl) rfl #[.agg #[.int .i64 t363, .int .i64 t364]] rfl MP_ ?_; (with_reducible refine (warrantorref07_empty.calls k t363 t364 true _ A5.out).mono ?_); rintro e w20 ⟨rfl, hb⟩; refine ⟨_, rfl, ?_⟩; have n0_ := Aside0.mk (blk_below (g := gb360) (o := .cells #[.int .i64 t363, .int .i64 t364] 23 (0, 0)) (bk2_ BK360.out) hb); have n1_ := Aside0.mk (blk_below (g := gb361) (o := .cells #[.int .i64 t365, .int .i64 t366] 23 (0, 0)) (bk2_ BK361.out) hb); have n2_ := Aside0.mk (blk_below (g := gb362) (o := .cells #[.int .i64 0, .int .i64 0] 23 (0, 0)) (bk2_ BK362.out) hb); have n3_ := Aside0.mk (below_step HB_ hb); clear BK360; clear BK361; clear BK362; clear HB; have BK360 := n0_; have BK361 := n1_; have BK362 := n2_; have HB := n3_; clear n0_ n1_ n2_ n3_; (try clear hb); (try clear hb2); (try clear hk); (try clear hi); have hnb21 := NB361_362.out; have hnc21 := NB362_361.out; have hcz22_0 : w20.cell? ⟨gb361, 0, none⟩ = some (.int .i64 t365) := (blk_cell BK361.out 0).trans rfl; have hcz22_1 : w20.cell? ⟨gb361, 1, none⟩ = some (.int .i64 t366) := (blk_cell BK361.out 1).trans rfl; have hfz22_0 := blk_frozen BK361.out 0; have hfz22_1 := blk_frozen BK361.out 1; have hcz23_0 : w20.cell? ⟨gb362, 0, none⟩ = some (.int .i64 0) := (blk_cell BK362.out 0).trans rfl; have hcz23_1 : w20.cell? ⟨gb362, 1, none⟩ = some (.int .i64 0) := (blk_cell BK362.out 1).trans rfl; have hfz23_0 := blk_frozen BK362.out 0; have hfz23_1 := blk_frozen BK362.out 1))
    refine bodyPost_ret (results_cell_row rfl _ _ gb362 23 #[.int .i64 t365, .int .i64 t366] (0, 0) _ rfl (bk2_ BK362.out) Tryd.underlying23 rfl (by kernel_rfl)) rfl ?_
    exact ⟨by first | rfl | (simp [errW_none, errW_some] <;> rfl) | (simp [*, errW_none, errW_some] <;> rfl), by repeat (first | (with_reducible first | exact HB.out | apply below_alloc | apply pw_below_drewN | apply below_drew1 | refine below_set ?_ GE360.out | refine below_set ?_ GE361.out | refine below_set ?_ GE362.out) | exact HB.out)⟩
  · replace c6 := Bool.eq_false_iff.mpr c6
    subst c6
    have H1 : ((warrantorref07_empty.f k t365 t366).bind fun t368 => (if t368 = true then (some (t363, t364)) else (if t365 < t363 then (if t366 > t364 then (some ((-1099511627776), 1099511627776)) else (some ((-1099511627776), t364))) else (if t366 > t364 then (some (t363, 1099511627776)) else (some (t363, t364)))))) = some (r1, r2) := by rw [if_neg (show ¬ (false = true) by decide)] at H; exact H
    clear H
    have H := H1
    clear H1
    replace H := Option.bind_eq_some_iff.mp H
    obtain ⟨t368, A240, H⟩ := H
    replace H : (if t368 = true then (some (t363, t364)) else (if t365 < t363 then (if t366 > t364 then (some ((-1099511627776), 1099511627776)) else (some ((-1099511627776), t364))) else (if t366 > t364 then (some (t363, 1099511627776)) else (some (t363, t364))))) = some (r1, r2) := H
    have A24 := Aside0.mk A240
    clear A240
    by_cases c25 : t368 = true
    · subst c25
      have H1 : (some (t363, t364)) = some (r1, r2) := by rw [if_pos rfl] at H; exact H
      clear H
      have H := H1
      clear H1
      simp only [Option.some.injEq, Prod.mk.injEq] at H
      obtain ⟨rfl, rfl⟩ := H
      go_enter Tryd.func30, Tryd.ntmps30
      try go_wp2_with (first | ((with_reducible refine gate_dst (N := 2) rfl ?_); refine box_event ?hg (N := 2) ?hd (cs := #[.int .i64 a0_0, .int .i64 a0_1]) (t := 23) ?hr ?_; (case hd => rfl); (case hg => rfl); (case hr => first | (go_simp; done) | (go_simp; rfl)); intro gb360 hg w26 hbox hb; have n0_ := Aside0.mk (below_step HB_ hb); have n1_ := Aside0.mk (hbox); have n2_ := Aside0.mk ((by rw [hg]; exact (below_size HB_) : w.heap.size ≤ gb360)); have n3_ := Aside0.mk ((by rw [hg]; exact (below_size HB_) : w.heap.size ≤ gb360)); clear HB; have HB := n0_; have BK360 := n1_; have GW360 := n2_; have GE360 := n3_; clear n0_ n1_ n2_ n3_; clear hb hbox hg) | ((with_reducible refine gate_dst (N := 3) rfl ?_); refine box_event ?hg (N := 3) ?hd (cs := #[.int .i64 a1_0, .int .i64 a1_1]) (t := 23) ?hr ?_; (case hd => rfl); (case hg => rfl); (case hr => first | (go_simp; done) | (go_simp; rfl)); intro gb361 hg w27 hbox hb; have n0_ := Aside0.mk (blk_below (g := gb360) (o := .cells #[.int .i64 a0_0, .int .i64 a0_1] 23 (0, 0)) (bk_ BK360.out) hb); have n1_ := Aside0.mk (below_step HB_ hb); have n2_ := Aside0.mk (hbox); have n3_ := Aside0.mk ((by rw [hg]; exact (below_size HB_) : w.heap.size ≤ gb361)); have n4_ := Aside0.mk ((by rw [hg]; exact (below_size HB_) : w.heap.size ≤ gb361)); have n5_ := Aside0.mk ((by rw [hg]; exact Nat.ne_of_lt (blk_lt (g := gb360) (o := .cells #[.int .i64 a0_0, .int .i64 a0_1] 23 (0, 0)) (bk_ BK360.out)) : gb360 ≠ gb361)); have n6_ := Aside0.mk ((by rw [hg]; exact Nat.ne_of_gt (blk_lt (g := gb360) (o := .cells #[.int .i64 a0_0, .int .i64 a0_1] 23 (0, 0)) (bk_ BK360.out)) : gb361 ≠ gb360)); clear BK360; clear HB; have BK360 := n0_; have HB := n1_; have BK361 := n2_; have GW361 := n3_; have GE361 := n4_; have NB360_361 := n5_; have NB361_360 := n6_; clear n0_ n1_ n2_ n3_ n4_ n5_ n6_; clear hb hbox hg) | ((with_reducible refine gate_dst (N := 4) rfl ?_); refine box_event ?hg (N := 4) ?hd (cs := #[.int .i64 0, .int .i64 0]) (t := 23) ?hr ?_; (case hd => rfl); (case hg => rfl); (case hr => first | (go_simp; done) | (go_simp; rfl)); intro gb362 hg w28 hbox hb; have n0_ := Aside0.mk (blk_below (g := gb360) (o := .cells #[.int .i64 a0_0, .int .i64 a0_1] 23 (0, 0)) (bk_ BK360.out) hb); have n1_ := Aside0.mk (blk_below (g := gb361) (o := .cells #[.int .i64 a1_0, .int .i64 a1_1] 23 (0, 0)) (bk_ BK361.out) hb); have n2_ := Aside0.mk (below_step HB_ hb); have n3_ := Aside0.mk (hbox); have n4_ := Aside0.mk ((by rw [hg]; exact (below_size HB_) : w.heap.size ≤ gb362)); have n5_ := Aside0.mk ((by rw [hg]; exact (below_size HB_) : w.heap.size ≤ gb362)); have n6_ := Aside0.mk ((by rw [hg]; exact Nat.ne_of_lt (blk_lt (g := gb360) (o := .cells #[.int .i64 a0_0, .int .i64 a0_1] 23 (0, 0)) (bk_ BK360.out)) : gb360 ≠ gb362)); have n7_ := Aside0.mk ((by rw [hg]; exact Nat.ne_of_gt (blk_lt (g := gb360) (o := .cells #[.int .i64 a0_0, .int .i64 a0_1] 23 (0, 0)) (bk_ BK360.out)) : gb362 ≠ gb360)); have n8_ := Aside0.mk ((by rw [hg]; exact Nat.ne_of_lt (blk_lt (g := gb361) (o := .cells #[.int .i64 a1_0, .int .i64 a1_1] 23 (0, 0)) (bk_ BK361.out)) : gb361 ≠ gb362)); have n9_ := Aside0.mk ((by rw [hg]; exact Nat.ne_of_gt (blk_lt (g := gb361) (o := .cells #[.int .i64 a1_0, .int .i64 a1_1] 23 (0, 0)) (bk_ BK361.out)) : gb362 ≠ gb361)); clear BK360; clear BK361; clear HB; have BK360 := n0_; have BK361 := n1_; have HB := n2_; have BK362 := n3_; have GW362 := n4_; have GE362 := n5_; have NB360_362 := n6_; have NB362_360 := n7_; have NB361_362 := n8_; have NB362_361 := n9_; clear n0_ n1_ n2_ n3_ n4_ n5_ n6_ n7_ n8_ n9_; clear hb hbox hg))
      first | (obtain ⟨w28, hq_⟩ : ∃ x, x = w28.drewN nd := ⟨_, rfl⟩; rw [← hq_]; have q0_ := Aside0.mk (blk_drewN BK360.out nd); rw [← hq_] at q0_; have q1_ := Aside0.mk (blk_drewN BK361.out nd); rw [← hq_] at q1_; have q2_ := Aside0.mk (blk_drewN BK362.out nd); rw [← hq_] at q2_; have q3_ := Aside0.mk (pw_below_drewN HB.out nd); rw [← hq_] at q3_; clear BK360; clear BK361; clear BK362; clear HB; have BK360 := q0_; have BK361 := q1_; have BK362 := q2_; have HB := q3_; clear hq_ q0_ q1_ q2_ q3_) | skip
      have n0_ := Aside0.mk (blk_drew BK360.out)
      have n1_ := Aside0.mk (blk_drew BK361.out)
      have n2_ := Aside0.mk (blk_drew BK362.out)
      have n3_ := Aside0.mk (below_drew1 HB.out)
      clear BK360
      clear BK361
      clear BK362
      clear HB
      have BK360 := n0_
      have BK361 := n1_
      have BK362 := n2_
      have HB := n3_
      clear n0_ n1_ n2_ n3_
      refine start_ (n := 6) (S := fun w' => w'.cell? ⟨gb360, 0, none⟩ = some (.int .i64 a0_0) ∧ w'.cell? ⟨gb360, 1, none⟩ = some (.int .i64 a0_1) ∧ w'.cell? ⟨gb361, 0, none⟩ = some (.int .i64 a1_0) ∧ w'.cell? ⟨gb361, 1, none⟩ = some (.int .i64 a1_1)) (ds := [4, 5]) #[false, false, false, false, false, false] (by kernel_rfl) rfl rfl ⟨(blk_cell BK360.out 0).trans rfl, (blk_cell BK360.out 1).trans rfl, (blk_cell BK361.out 0).trans rfl, (blk_cell BK361.out 1).trans rfl⟩ (fun hHeld => ?_)
      generalize w28.drew = w29 at BK360 BK361 BK362 HB hHeld ⊢
      refine take_ (i := 0) (N := some 5) (v := ?_) (a' := ?_) #[true, false, false, false, false, false] rfl rfl (by kernel_rfl) (fun _ _ _ h => h) (Or.inl ⟨by rfl, ?_⟩) hHeld ?_ ?_
      rotate_left
      · rintro w' ⟨s0, s1, s2, s3⟩
        go_simp
        with_reducible rfl
      rotate_left
      · exact AP_
      refine take_ (i := 2) (N := some 7) (v := ?_) (a' := ?_) #[true, false, true, false, false, false] rfl rfl (by kernel_rfl) (fun _ _ _ h => h) (Or.inl ⟨by rfl, ?_⟩) hHeld ?_ ?_
      rotate_left
      · rintro w' ⟨s0, s1, s2, s3⟩
        go_simp
        with_reducible rfl
      rotate_left
      · exact AP_
      refine one_ (i := 1) (N := some 6) #[true, true, true, false, false, false] rfl rfl (by kernel_rfl) (by decide) (fun K hK => ?_)
      refine goes_ Tryd.func10 (by kernel_rfl) rfl #[.agg #[.int .i64 a0_0, .int .i64 a0_1]] (by rfl) rfl rfl MP_ ?_
      with_reducible refine (warrantorref07_Plain.calls k a0_0 a0_1 t363 t364 _ A3.out).mono ?_
      rintro e w30 ⟨rfl, hb⟩
      refine ⟨_, rfl, ?_⟩
      have n0_ := Aside0.mk (blk_below (g := gb360) (o := .cells #[.int .i64 a0_0, .int .i64 a0_1] 23 (0, 0)) (bk_ BK360.out) hb)
      have n1_ := Aside0.mk (blk_below (g := gb361) (o := .cells #[.int .i64 a1_0, .int .i64 a1_1] 23 (0, 0)) (bk_ BK361.out) hb)
      have n2_ := Aside0.mk (blk_below (g := gb362) (o := .cells #[.int .i64 0, .int .i64 0] 23 (0, 0)) (bk_ BK362.out) hb)
      have n3_ := Aside0.mk (below_step HB_ hb)
      clear BK360
      clear BK361
      clear BK362
      clear HB
      have BK360 := n0_
      have BK361 := n1_
      have BK362 := n2_
      have HB := n3_
      clear n0_ n1_ n2_ n3_
      (try clear hb)
      (try clear hb2)
      (try clear hk)
      (try clear hi)
      refine hK.out _ _ ⟨(blk_cell BK360.out 0).trans rfl, (blk_cell BK360.out 1).trans rfl, (blk_cell BK361.out 0).trans rfl, (blk_cell BK361.out 1).trans rfl⟩ (fun hHeld => ?_)
      clear hK K
      refine norm_ (a' := ?_) ?_ ?_
      rotate_left
      · show Act.put _ (some 6) _ = _
        simp only [Act.put, List.setIfInBounds_toArray, List.set_cons_zero, List.set_cons_succ, i64_w, i32_w]
        rfl
      refine one_ (i := 3) (N := some 8) #[true, true, true, true, false, false] rfl rfl (by kernel_rfl) (by decide) (fun K hK => ?_)
      refine goes_ Tryd.func10 (by kernel_rfl) rfl #[.agg #[.int .i64 a1_0, .int .i64 a1_1]] (by rfl) rfl rfl MP_ ?_
      with_reducible refine (warrantorref07_Plain.calls k a1_0 a1_1 t365 t366 _ A4.out).mono ?_
      rintro e w31 ⟨rfl, hb⟩
      refine ⟨_, rfl, ?_⟩
      have n0_ := Aside0.mk (blk_below (g := gb360) (o := .cells #[.int .i64 a0_0, .int .i64 a0_1] 23 (0, 0)) (bk_ BK360.out) hb)
      have n1_ := Aside0.mk (blk_below (g := gb361) (o := .cells #[.int .i64 a1_0, .int .i64 a1_1] 23 (0, 0)) (bk_ BK361.out) hb)
      have n2_ := Aside0.mk (blk_below (g := gb362) (o := .cells #[.int .i64 0, .int .i64 0] 23 (0, 0)) (bk_ BK362.out) hb)
      have n3_ := Aside0.mk (below_step HB_ hb)
      clear BK360
      clear BK361
      clear BK362
      clear HB
      have BK360 := n0_
      have BK361 := n1_
      have BK362 := n2_
      have HB := n3_
      clear n0_ n1_ n2_ n3_
      (try clear hb)
      (try clear hb2)
      (try clear hk)
      (try clear hi)
      refine hK.out _ _ ⟨(blk_cell BK360.out 0).trans rfl, (blk_cell BK360.out 1).trans rfl, (blk_cell BK361.out 0).trans rfl, (blk_cell BK361.out 1).trans rfl⟩ (fun hHeld => ?_)
      clear hK K
      refine norm_ (a' := ?_) ?_ ?_
      rotate_left
      · show Act.put _ (some 8) _ = _
        simp only [Act.put, List.setIfInBounds_toArray, List.set_cons_zero, List.set_cons_succ, i64_w, i32_w]
        rfl
      refine last_ (i := 4) (N := none) #[true, true, true, true, true, false] rfl rfl (by kernel_rfl) (by decide) (fun K hK => ?_)
      have hs32 : w31.cell? ⟨gb360, 0, none⟩ = some (.int .i64 a0_0) := (blk_cell BK360.out 0).trans rfl
      have hfs32 := blk_frozen BK360.out 0
      have hns32_1 := NB361_360.out
      have hns32_2 := NB362_360.out
      have hms32_1 := NB360_361.out
      have hms32_2 := NB360_362.out
      have hs33 : w31.cell? ⟨gb360, 1, none⟩ = some (.int .i64 a0_1) := (blk_cell BK360.out 1).trans rfl
      have hfs33 := blk_frozen BK360.out 1
      have hns33_1 := NB361_360.out
      have hns33_2 := NB362_360.out
      have hms33_1 := NB360_361.out
      have hms33_2 := NB360_362.out
      refine skip_ (w1 := ?_) (by rfl) rfl ?_ ?_
      rotate_left
      · go_simp
        rfl
      refine hK.out _ _ ?_
      clear hK K
      refine last_ (i := 5) (N := none) #[true, true, true, true, true, true] rfl rfl (by kernel_rfl) (by decide) (fun K hK => ?_)
      have hs34 : w31.cell? ⟨gb361, 0, none⟩ = some (.int .i64 a1_0) := (blk_cell BK361.out 0).trans rfl
      have hfs34 := blk_frozen BK361.out 0
      have hns34_0 := NB360_361.out
      have hns34_2 := NB362_361.out
      have hms34_0 := NB361_360.out
      have hms34_2 := NB361_362.out
      have hs35 : w31.cell? ⟨gb361, 1, none⟩ = some (.int .i64 a1_1) := (blk_cell BK361.out 1).trans rfl
      have hfs35 := blk_frozen BK361.out 1
      have hns35_0 := NB360_361.out
      have hns35_2 := NB362_361.out
      have hms35_0 := NB361_360.out
      have hms35_2 := NB361_362.out
      refine skip_ (w1 := ?_) (by rfl) rfl ?_ ?_
      rotate_left
      · go_simp
        rfl
      refine hK.out _ _ ?_
      clear hK K
      refine done_ (by kernel_rfl) ?_
      have hnb36 := NB360_361.out
      have hnc36 := NB361_360.out
      have hnb37 := NB360_362.out
      have hnc37 := NB362_360.out
      have hcz38_0 : w31.cell? ⟨gb360, 0, none⟩ = some (.int .i64 a0_0) := (blk_cell BK360.out 0).trans rfl
      have hcz38_1 : w31.cell? ⟨gb360, 1, none⟩ = some (.int .i64 a0_1) := (blk_cell BK360.out 1).trans rfl
      have hfz38_0 := blk_frozen BK360.out 0
      have hfz38_1 := blk_frozen BK360.out 1
      try go_wp2_with (first | ((with_reducible refine gate_callee (f := 40) rfl ?_); refine goesL_ (some 11) rfl rfl Tryd.func40 (by kernel_rfl) rfl #[.agg #[.int .i64 t363, .int .i64 t364]] rfl MP_ ?_; (with_reducible refine (warrantorref07_empty.calls k t363 t364 false _ A5.out).mono ?_); rintro e w39 ⟨rfl, hb⟩; refine ⟨_, rfl, ?_⟩; have n0_ := Aside0.mk (blk_below (g := gb360) (o := .cells #[.int .i64 t363, .int .i64 t364] 23 (0, 0)) (bk2_ BK360.out) hb); have n1_ := Aside0.mk (blk_below (g := gb361) (o := .cells #[.int .i64 t365, .int .i64 t366] 23 (0, 0)) (bk2_ BK361.out) hb); have n2_ := Aside0.mk (blk_below (g := gb362) (o := .cells #[.int .i64 0, .int .i64 0] 23 (0, 0)) (bk2_ BK362.out) hb); have n3_ := Aside0.mk (below_step HB_ hb); clear BK360; clear BK361; clear BK362; clear HB; have BK360 := n0_; have BK361 := n1_; have BK362 := n2_; have HB := n3_; clear n0_ n1_ n2_ n3_; (try clear hb); (try clear hb2); (try clear hk); (try clear hi); have hnb40 := NB361_362.out; have hnc40 := NB362_361.out; have hcz41_0 : w39.cell? ⟨gb361, 0, none⟩ = some (.int .i64 t365) := (blk_cell BK361.out 0).trans rfl; have hcz41_1 : w39.cell? ⟨gb361, 1, none⟩ = some (.int .i64 t366) := (blk_cell BK361.out 1).trans rfl; have hfz41_0 := blk_frozen BK361.out 0; have hfz41_1 := blk_frozen BK361.out 1) | ((with_reducible refine gate_callee (f := 40) rfl ?_); refine goesL_ (some 15) rfl rfl Tryd.func40 (by kernel_rfl) rfl #[.agg #[.int .i64 t365, .int .i64 t366]] rfl MP_ ?_; (with_reducible refine (warrantorref07_empty.calls k t365 t366 true _ A24.out).mono ?_); rintro e w42 ⟨rfl, hb⟩; refine ⟨_, rfl, ?_⟩; have n0_ := Aside0.mk (blk_below (g := gb360) (o := .cells #[.int .i64 t363, .int .i64 t364] 23 (0, 0)) (bk_ BK360.out) hb); have n1_ := Aside0.mk (blk_below (g := gb361) (o := .cells #[.int .i64 t365, .int .i64 t366] 23 (0, 0)) (bk_ BK361.out) hb); have n2_ := Aside0.mk (blk_below (g := gb362) (o := .cells #[.int .i64 0, .int .i64 0] 23 (0, 0)) (bk_ BK362.out) hb); have n3_ := Aside0.mk (below_step HB_ hb); clear BK360; clear BK361; clear BK362; clear HB; have BK360 := n0_; have BK361 := n1_; have BK362 := n2_; have HB := n3_; clear n0_ n1_ n2_ n3_; (try clear hb); (try clear hb2); (try clear hk); (try clear hi); have hcz43_0 : w42.cell? ⟨gb360, 0, none⟩ = some (.int .i64 t363) := (blk_cell BK360.out 0).trans rfl; have hcz43_1 : w42.cell? ⟨gb360, 1, none⟩ = some (.int .i64 t364) := (blk_cell BK360.out 1).trans rfl; have hfz43_0 := blk_frozen BK360.out 0; have hfz43_1 := blk_frozen BK360.out 1; have hcz44_0 : w42.cell? ⟨gb362, 0, none⟩ = some (.int .i64 0) := (blk_cell BK362.out 0).trans rfl; have hcz44_1 : w42.cell? ⟨gb362, 1, none⟩ = some (.int .i64 0) := (blk_cell BK362.out 1).trans rfl; have hfz44_0 := blk_frozen BK362.out 0; have hfz44_1 := blk_frozen BK362.out 1))
      refine bodyPost_ret (results_cell_row rfl _ _ gb362 23 #[.int .i64 t363, .int .i64 t364] (0, 0) _ rfl (bk2_ BK362.out) Tryd.underlying23 rfl (by kernel_rfl)) rfl ?_
      exact ⟨by first | rfl | (simp [errW_none, errW_some] <;> rfl) | (simp [*, errW_none, errW_some] <;> rfl), by repeat (first | (with_reducible first | exact HB.out | apply below_alloc | apply pw_below_drewN | apply below_drew1 | refine below_set ?_ GE360.out | refine below_set ?_ GE361.out | refine below_set ?_ GE362.out) | exact HB.out)⟩
    · replace c25 := Bool.eq_false_iff.mpr c25
      subst c25
      have H1 : (if t365 < t363 then (if t366 > t364 then (some ((-1099511627776), 1099511627776)) else (some ((-1099511627776), t364))) else (if t366 > t364 then (some (t363, 1099511627776)) else (some (t363, t364)))) = some (r1, r2) := by rw [if_neg (show ¬ (false = true) by decide)] at H; exact H
      clear H
      have H := H1
      clear H1
      by_cases c45 : t365 < t363
      · rw [if_pos c45] at H
        have c45b0 : decide (t365 < t363) = true := decide_eq_true c45
        clear c45
        by_cases c46 : t366 > t364
        · rw [if_pos c46] at H
          have c46b0 : decide (t364 < t366) = true := decide_eq_true c46
          clear c46
          simp only [Option.some.injEq, Prod.mk.injEq] at H
          obtain ⟨rfl, rfl⟩ := H
          go_enter Tryd.func30, Tryd.ntmps30
          try go_wp2_with (first | ((with_reducible refine gate_dst (N := 2) rfl ?_); refine box_event ?hg (N := 2) ?hd (cs := #[.int .i64 a0_0, .int .i64 a0_1]) (t := 23) ?hr ?_; (case hd => rfl); (case hg => rfl); (case hr => first | (go_simp; done) | (go_simp; rfl)); intro gb360 hg w47 hbox hb; have n0_ := Aside0.mk (below_step HB_ hb); have n1_ := Aside0.mk (hbox); have n2_ := Aside0.mk ((by rw [hg]; exact (below_size HB_) : w.heap.size ≤ gb360)); have n3_ := Aside0.mk ((by rw [hg]; exact (below_size HB_) : w.heap.size ≤ gb360)); clear HB; have HB := n0_; have BK360 := n1_; have GW360 := n2_; have GE360 := n3_; clear n0_ n1_ n2_ n3_; clear hb hbox hg) | ((with_reducible refine gate_dst (N := 3) rfl ?_); refine box_event ?hg (N := 3) ?hd (cs := #[.int .i64 a1_0, .int .i64 a1_1]) (t := 23) ?hr ?_; (case hd => rfl); (case hg => rfl); (case hr => first | (go_simp; done) | (go_simp; rfl)); intro gb361 hg w48 hbox hb; have n0_ := Aside0.mk (blk_below (g := gb360) (o := .cells #[.int .i64 a0_0, .int .i64 a0_1] 23 (0, 0)) (bk_ BK360.out) hb); have n1_ := Aside0.mk (below_step HB_ hb); have n2_ := Aside0.mk (hbox); have n3_ := Aside0.mk ((by rw [hg]; exact (below_size HB_) : w.heap.size ≤ gb361)); have n4_ := Aside0.mk ((by rw [hg]; exact (below_size HB_) : w.heap.size ≤ gb361)); have n5_ := Aside0.mk ((by rw [hg]; exact Nat.ne_of_lt (blk_lt (g := gb360) (o := .cells #[.int .i64 a0_0, .int .i64 a0_1] 23 (0, 0)) (bk_ BK360.out)) : gb360 ≠ gb361)); have n6_ := Aside0.mk ((by rw [hg]; exact Nat.ne_of_gt (blk_lt (g := gb360) (o := .cells #[.int .i64 a0_0, .int .i64 a0_1] 23 (0, 0)) (bk_ BK360.out)) : gb361 ≠ gb360)); clear BK360; clear HB; have BK360 := n0_; have HB := n1_; have BK361 := n2_; have GW361 := n3_; have GE361 := n4_; have NB360_361 := n5_; have NB361_360 := n6_; clear n0_ n1_ n2_ n3_ n4_ n5_ n6_; clear hb hbox hg) | ((with_reducible refine gate_dst (N := 4) rfl ?_); refine box_event ?hg (N := 4) ?hd (cs := #[.int .i64 0, .int .i64 0]) (t := 23) ?hr ?_; (case hd => rfl); (case hg => rfl); (case hr => first | (go_simp; done) | (go_simp; rfl)); intro gb362 hg w49 hbox hb; have n0_ := Aside0.mk (blk_below (g := gb360) (o := .cells #[.int .i64 a0_0, .int .i64 a0_1] 23 (0, 0)) (bk_ BK360.out) hb); have n1_ := Aside0.mk (blk_below (g := gb361) (o := .cells #[.int .i64 a1_0, .int .i64 a1_1] 23 (0, 0)) (bk_ BK361.out) hb); have n2_ := Aside0.mk (below_step HB_ hb); have n3_ := Aside0.mk (hbox); have n4_ := Aside0.mk ((by rw [hg]; exact (below_size HB_) : w.heap.size ≤ gb362)); have n5_ := Aside0.mk ((by rw [hg]; exact (below_size HB_) : w.heap.size ≤ gb362)); have n6_ := Aside0.mk ((by rw [hg]; exact Nat.ne_of_lt (blk_lt (g := gb360) (o := .cells #[.int .i64 a0_0, .int .i64 a0_1] 23 (0, 0)) (bk_ BK360.out)) : gb360 ≠ gb362)); have n7_ := Aside0.mk ((by rw [hg]; exact Nat.ne_of_gt (blk_lt (g := gb360) (o := .cells #[.int .i64 a0_0, .int .i64 a0_1] 23 (0, 0)) (bk_ BK360.out)) : gb362 ≠ gb360)); have n8_ := Aside0.mk ((by rw [hg]; exact Nat.ne_of_lt (blk_lt (g := gb361) (o := .cells #[.int .i64 a1_0, .int .i64 a1_1] 23 (0, 0)) (bk_ BK361.out)) : gb361 ≠ gb362)); have n9_ := Aside0.mk ((by rw [hg]; exact Nat.ne_of_gt (blk_lt (g := gb361) (o := .cells #[.int .i64 a1_0, .int .i64 a1_1] 23 (0, 0)) (bk_ BK361.out)) : gb362 ≠ gb361)); clear BK360; clear BK361; clear HB; have BK360 := n0_; have BK361 := n1_; have HB := n2_; have BK362 := n3_; have GW362 := n4_; have GE362 := n5_; have NB360_362 := n6_; have NB362_360 := n7_; have NB361_362 := n8_; have NB362_361 := n9_; clear n0_ n1_ n2_ n3_ n4_ n5_ n6_ n7_ n8_ n9_; clear hb hbox hg))
          first | (obtain ⟨w49, hq_⟩ : ∃ x, x = w49.drewN nd := ⟨_, rfl⟩; rw [← hq_]; have q0_ := Aside0.mk (blk_drewN BK360.out nd); rw [← hq_] at q0_; have q1_ := Aside0.mk (blk_drewN BK361.out nd); rw [← hq_] at q1_; have q2_ := Aside0.mk (blk_drewN BK362.out nd); rw [← hq_] at q2_; have q3_ := Aside0.mk (pw_below_drewN HB.out nd); rw [← hq_] at q3_; clear BK360; clear BK361; clear BK362; clear HB; have BK360 := q0_; have BK361 := q1_; have BK362 := q2_; have HB := q3_; clear hq_ q0_ q1_ q2_ q3_) | skip
          have n0_ := Aside0.mk (blk_drew BK360.out)
          have n1_ := Aside0.mk (blk_drew BK361.out)
          have n2_ := Aside0.mk (blk_drew BK362.out)
          have n3_ := Aside0.mk (below_drew1 HB.out)
          clear BK360
          clear BK361
          clear BK362
          clear HB
          have BK360 := n0_
          have BK361 := n1_
          have BK362 := n2_
          have HB := n3_
          clear n0_ n1_ n2_ n3_
          refine start_ (n := 6) (S := fun w' => w'.cell? ⟨gb360, 0, none⟩ = some (.int .i64 a0_0) ∧ w'.cell? ⟨gb360, 1, none⟩ = some (.int .i64 a0_1) ∧ w'.cell? ⟨gb361, 0, none⟩ = some (.int .i64 a1_0) ∧ w'.cell? ⟨gb361, 1, none⟩ = some (.int .i64 a1_1)) (ds := [4, 5]) #[false, false, false, false, false, false] (by kernel_rfl) rfl rfl ⟨(blk_cell BK360.out 0).trans rfl, (blk_cell BK360.out 1).trans rfl, (blk_cell BK361.out 0).trans rfl, (blk_cell BK361.out 1).trans rfl⟩ (fun hHeld => ?_)
          generalize w49.drew = w50 at BK360 BK361 BK362 HB hHeld ⊢
          refine take_ (i := 0) (N := some 5) (v := ?_) (a' := ?_) #[true, false, false, false, false, false] rfl rfl (by kernel_rfl) (fun _ _ _ h => h) (Or.inl ⟨by rfl, ?_⟩) hHeld ?_ ?_
          rotate_left
          · rintro w' ⟨s0, s1, s2, s3⟩
            go_simp
            with_reducible rfl
          rotate_left
          · exact AP_
          refine take_ (i := 2) (N := some 7) (v := ?_) (a' := ?_) #[true, false, true, false, false, false] rfl rfl (by kernel_rfl) (fun _ _ _ h => h) (Or.inl ⟨by rfl, ?_⟩) hHeld ?_ ?_
          rotate_left
          · rintro w' ⟨s0, s1, s2, s3⟩
            go_simp
            with_reducible rfl
          rotate_left
          · exact AP_
          refine one_ (i := 1) (N := some 6) #[true, true, true, false, false, false] rfl rfl (by kernel_rfl) (by decide) (fun K hK => ?_)
          refine goes_ Tryd.func10 (by kernel_rfl) rfl #[.agg #[.int .i64 a0_0, .int .i64 a0_1]] (by rfl) rfl rfl MP_ ?_
          with_reducible refine (warrantorref07_Plain.calls k a0_0 a0_1 t363 t364 _ A3.out).mono ?_
          rintro e w51 ⟨rfl, hb⟩
          refine ⟨_, rfl, ?_⟩
          have n0_ := Aside0.mk (blk_below (g := gb360) (o := .cells #[.int .i64 a0_0, .int .i64 a0_1] 23 (0, 0)) (bk_ BK360.out) hb)
          have n1_ := Aside0.mk (blk_below (g := gb361) (o := .cells #[.int .i64 a1_0, .int .i64 a1_1] 23 (0, 0)) (bk_ BK361.out) hb)
          have n2_ := Aside0.mk (blk_below (g := gb362) (o := .cells #[.int .i64 0, .int .i64 0] 23 (0, 0)) (bk_ BK362.out) hb)
          have n3_ := Aside0.mk (below_step HB_ hb)
          clear BK360
          clear BK361
          clear BK362
          clear HB
          have BK360 := n0_
          have BK361 := n1_
          have BK362 := n2_
          have HB := n3_
          clear n0_ n1_ n2_ n3_
          (try clear hb)
          (try clear hb2)
          (try clear hk)
          (try clear hi)
          refine hK.out _ _ ⟨(blk_cell BK360.out 0).trans rfl, (blk_cell BK360.out 1).trans rfl, (blk_cell BK361.out 0).trans rfl, (blk_cell BK361.out 1).trans rfl⟩ (fun hHeld => ?_)
          clear hK K
          refine norm_ (a' := ?_) ?_ ?_
          rotate_left
          · show Act.put _ (some 6) _ = _
            simp only [Act.put, List.setIfInBounds_toArray, List.set_cons_zero, List.set_cons_succ, i64_w, i32_w]
            rfl
          refine one_ (i := 3) (N := some 8) #[true, true, true, true, false, false] rfl rfl (by kernel_rfl) (by decide) (fun K hK => ?_)
          refine goes_ Tryd.func10 (by kernel_rfl) rfl #[.agg #[.int .i64 a1_0, .int .i64 a1_1]] (by rfl) rfl rfl MP_ ?_
          with_reducible refine (warrantorref07_Plain.calls k a1_0 a1_1 t365 t366 _ A4.out).mono ?_
          rintro e w52 ⟨rfl, hb⟩
          refine ⟨_, rfl, ?_⟩
          have n0_ := Aside0.mk (blk_below (g := gb360) (o := .cells #[.int .i64 a0_0, .int .i64 a0_1] 23 (0, 0)) (bk_ BK360.out) hb)
          have n1_ := Aside0.mk (blk_below (g := gb361) (o := .cells #[.int .i64 a1_0, .int .i64 a1_1] 23 (0, 0)) (bk_ BK361.out) hb)
          have n2_ := Aside0.mk (blk_below (g := gb362) (o := .cells #[.int .i64 0, .int .i64 0] 23 (0, 0)) (bk_ BK362.out) hb)
          have n3_ := Aside0.mk (below_step HB_ hb)
          clear BK360
          clear BK361
          clear BK362
          clear HB
          have BK360 := n0_
          have BK361 := n1_
          have BK362 := n2_
          have HB := n3_
          clear n0_ n1_ n2_ n3_
          (try clear hb)
          (try clear hb2)
          (try clear hk)
          (try clear hi)
          refine hK.out _ _ ⟨(blk_cell BK360.out 0).trans rfl, (blk_cell BK360.out 1).trans rfl, (blk_cell BK361.out 0).trans rfl, (blk_cell BK361.out 1).trans rfl⟩ (fun hHeld => ?_)
          clear hK K
          refine norm_ (a' := ?_) ?_ ?_
          rotate_left
          · show Act.put _ (some 8) _ = _
            simp only [Act.put, List.setIfInBounds_toArray, List.set_cons_zero, List.set_cons_succ, i64_w, i32_w]
            rfl
          refine last_ (i := 4) (N := none) #[true, true, true, true, true, false] rfl rfl (by kernel_rfl) (by decide) (fun K hK => ?_)
          have hs53 : w52.cell? ⟨gb360, 0, none⟩ = some (.int .i64 a0_0) := (blk_cell BK360.out 0).trans rfl
          have hfs53 := blk_frozen BK360.out 0
          have hns53_1 := NB361_360.out
          have hns53_2 := NB362_360.out
          have hms53_1 := NB360_361.out
          have hms53_2 := NB360_362.out
          have hs54 : w52.cell? ⟨gb360, 1, none⟩ = some (.int .i64 a0_1) := (blk_cell BK360.out 1).trans rfl
          have hfs54 := blk_frozen BK360.out 1
          have hns54_1 := NB361_360.out
          have hns54_2 := NB362_360.out
          have hms54_1 := NB360_361.out
          have hms54_2 := NB360_362.out
          refine skip_ (w1 := ?_) (by rfl) rfl ?_ ?_
          rotate_left
          · go_simp
            rfl
          refine hK.out _ _ ?_
          clear hK K
          refine last_ (i := 5) (N := none) #[true, true, true, true, true, true] rfl rfl (by kernel_rfl) (by decide) (fun K hK => ?_)
          have hs55 : w52.cell? ⟨gb361, 0, none⟩ = some (.int .i64 a1_0) := (blk_cell BK361.out 0).trans rfl
          have hfs55 := blk_frozen BK361.out 0
          have hns55_0 := NB360_361.out
          have hns55_2 := NB362_361.out
          have hms55_0 := NB361_360.out
          have hms55_2 := NB361_362.out
          have hs56 : w52.cell? ⟨gb361, 1, none⟩ = some (.int .i64 a1_1) := (blk_cell BK361.out 1).trans rfl
          have hfs56 := blk_frozen BK361.out 1
          have hns56_0 := NB360_361.out
          have hns56_2 := NB362_361.out
          have hms56_0 := NB361_360.out
          have hms56_2 := NB361_362.out
          refine skip_ (w1 := ?_) (by rfl) rfl ?_ ?_
          rotate_left
          · go_simp
            rfl
          refine hK.out _ _ ?_
          clear hK K
          refine done_ (by kernel_rfl) ?_
          have hnb57 := NB360_361.out
          have hnc57 := NB361_360.out
          have hnb58 := NB360_362.out
          have hnc58 := NB362_360.out
          have hcz59_0 : w52.cell? ⟨gb360, 0, none⟩ = some (.int .i64 a0_0) := (blk_cell BK360.out 0).trans rfl
          have hcz59_1 : w52.cell? ⟨gb360, 1, none⟩ = some (.int .i64 a0_1) := (blk_cell BK360.out 1).trans rfl
          have hfz59_0 := blk_frozen BK360.out 0
          have hfz59_1 := blk_frozen BK360.out 1
          try go_wp2_with (first | ((with_reducible refine gate_callee (f := 40) rfl ?_); refine goesL_ (some 11) rfl rfl Tryd.func40 (by kernel_rfl) rfl #[.agg #[.int .i64 t363, .int .i64 t364]] rfl MP_ ?_; (with_reducible refine (warrantorref07_empty.calls k t363 t364 false _ A5.out).mono ?_); rintro e w60 ⟨rfl, hb⟩; refine ⟨_, rfl, ?_⟩; have n0_ := Aside0.mk (blk_below (g := gb360) (o := .cells #[.int .i64 t363, .int .i64 t364] 23 (0, 0)) (bk2_ BK360.out) hb); have n1_ := Aside0.mk (blk_below (g := gb361) (o := .cells #[.int .i64 t365, .int .i64 t366] 23 (0, 0)) (bk2_ BK361.out) hb); have n2_ := Aside0.mk (blk_below (g := gb362) (o := .cells #[.int .i64 0, .int .i64 0] 23 (0, 0)) (bk2_ BK362.out) hb); have n3_ := Aside0.mk (below_step HB_ hb); clear BK360; clear BK361; clear BK362; clear HB; have BK360 := n0_; have BK361 := n1_; have BK362 := n2_; have HB := n3_; clear n0_ n1_ n2_ n3_; (try clear hb); (try clear hb2); (try clear hk); (try clear hi); have hnb61 := NB361_362.out; have hnc61 := NB362_361.out; have hcz62_0 : w60.cell? ⟨gb361, 0, none⟩ = some (.int .i64 t365) := (blk_cell BK361.out 0).trans rfl; have hcz62_1 : w60.cell? ⟨gb361, 1, none⟩ = some (.int .i64 t366) := (blk_cell BK361.out 1).trans rfl; have hfz62_0 := blk_frozen BK361.out 0; have hfz62_1 := blk_frozen BK361.out 1) | ((with_reducible refine gate_callee (f := 40) rfl ?_); refine goesL_ (some 15) rfl rfl Tryd.func40 (by kernel_rfl) rfl #[.agg #[.int .i64 t365, .int .i64 t366]] rfl MP_ ?_; (with_reducible refine (warrantorref07_empty.calls k t365 t366 false _ A24.out).mono ?_); rintro e w63 ⟨rfl, hb⟩; refine ⟨_, rfl, ?_⟩; have n0_ := Aside0.mk (blk_below (g := gb360) (o := .cells #[.int .i64 t363, .int .i64 t364] 23 (0, 0)) (bk_ BK360.out) hb); have n1_ := Aside0.mk (blk_below (g := gb361) (o := .cells #[.int .i64 t365, .int .i64 t366] 23 (0, 0)) (bk_ BK361.out) hb); have n2_ := Aside0.mk (blk_below (g := gb362) (o := .cells #[.int .i64 0, .int .i64 0] 23 (0, 0)) (bk_ BK362.out) hb); have n3_ := Aside0.mk (below_step HB_ hb); clear BK360; clear BK361; clear BK362; clear HB; have BK360 := n0_; have BK361 := n1_; have BK362 := n2_; have HB := n3_; clear n0_ n1_ n2_ n3_; (try clear hb); (try clear hb2); (try clear hk); (try clear hi); have hcz64_0 : w63.cell? ⟨gb361, 0, none⟩ = some (.int .i64 t365) := (blk_cell BK361.out 0).trans rfl; have hcz64_1 : w63.cell? ⟨gb361, 1, none⟩ = some (.int .i64 t366) := (blk_cell BK361.out 1).trans rfl; have hfz64_0 := blk_frozen BK361.out 0; have hfz64_1 := blk_frozen BK361.out 1; have hcz65_0 : w63.cell? ⟨gb360, 0, none⟩ = some (.int .i64 t363) := (blk_cell BK360.out 0).trans rfl; have hcz65_1 : w63.cell? ⟨gb360, 1, none⟩ = some (.int .i64 t364) := (blk_cell BK360.out 1).trans rfl; have hfz65_0 := blk_frozen BK360.out 0; have hfz65_1 := blk_frozen BK360.out 1; have hcz66_0 : w63.cell? ⟨gb362, 0, none⟩ = some (.int .i64 0) := (blk_cell BK362.out 0).trans rfl; have hcz66_1 : w63.cell? ⟨gb362, 1, none⟩ = some (.int .i64 0) := (blk_cell BK362.out 1).trans rfl; have hfz66_0 := blk_frozen BK362.out 0; have hfz66_1 := blk_frozen BK362.out 1))
          refine bodyPost_ret (results_cell_row rfl _ _ gb362 23 #[.int .i64 (-1099511627776), .int .i64 1099511627776] (0, 0) _ rfl (bk2_ BK362.out) Tryd.underlying23 rfl (by kernel_rfl)) rfl ?_
          exact ⟨by first | rfl | (simp [errW_none, errW_some] <;> rfl) | (simp [*, errW_none, errW_some] <;> rfl), by repeat (first | (with_reducible first | exact HB.out | apply below_alloc | apply pw_below_drewN | apply below_drew1 | refine below_set ?_ GE360.out | refine below_set ?_ GE361.out | refine below_set ?_ GE362.out) | exact HB.out)⟩
        · rw [if_neg c46] at H
          have c46b0 : decide (t364 < t366) = false := decide_eq_false c46
          clear c46
          simp only [Option.some.injEq, Prod.mk.injEq] at H
          obtain ⟨rfl, rfl⟩ := H
          go_enter Tryd.func30, Tryd.ntmps30
          try go_wp2_with (first | ((with_reducible refine gate_dst (N := 2) rfl ?_); refine box_event ?hg (N := 2) ?hd (cs := #[.int .i64 a0_0, .int .i64 a0_1]) (t := 23) ?hr ?_; (case hd => rfl); (case hg => rfl); (case hr => first | (go_simp; done) | (go_simp; rfl)); intro gb360 hg w67 hbox hb; have n0_ := Aside0.mk (below_step HB_ hb); have n1_ := Aside0.mk (hbox); have n2_ := Aside0.mk ((by rw [hg]; exact (below_size HB_) : w.heap.size ≤ gb360)); have n3_ := Aside0.mk ((by rw [hg]; exact (below_size HB_) : w.heap.size ≤ gb360)); clear HB; have HB := n0_; have BK360 := n1_; have GW360 := n2_; have GE360 := n3_; clear n0_ n1_ n2_ n3_; clear hb hbox hg) | ((with_reducible refine gate_dst (N := 3) rfl ?_); refine box_event ?hg (N := 3) ?hd (cs := #[.int .i64 a1_0, .int .i64 a1_1]) (t := 23) ?hr ?_; (case hd => rfl); (case hg => rfl); (case hr => first | (go_simp; done) | (go_simp; rfl)); intro gb361 hg w68 hbox hb; have n0_ := Aside0.mk (blk_below (g := gb360) (o := .cells #[.int .i64 a0_0, .int .i64 a0_1] 23 (0, 0)) (bk_ BK360.out) hb); have n1_ := Aside0.mk (below_step HB_ hb); have n2_ := Aside0.mk (hbox); have n3_ := Aside0.mk ((by rw [hg]; exact (below_size HB_) : w.heap.size ≤ gb361)); have n4_ := Aside0.mk ((by rw [hg]; exact (below_size HB_) : w.heap.size ≤ gb361)); have n5_ := Aside0.mk ((by rw [hg]; exact Nat.ne_of_lt (blk_lt (g := gb360) (o := .cells #[.int .i64 a0_0, .int .i64 a0_1] 23 (0, 0)) (bk_ BK360.out)) : gb360 ≠ gb361)); have n6_ := Aside0.mk ((by rw [hg]; exact Nat.ne_of_gt (blk_lt (g := gb360) (o := .cells #[.int .i64 a0_0, .int .i64 a0_1] 23 (0, 0)) (bk_ BK360.out)) : gb361 ≠ gb360)); clear BK360; clear HB; have BK360 := n0_; have HB := n1_; have BK361 := n2_; have GW361 := n3_; have GE361 := n4_; have NB360_361 := n5_; have NB361_360 := n6_; clear n0_ n1_ n2_ n3_ n4_ n5_ n6_; clear hb hbox hg) | ((with_reducible refine gate_dst (N := 4) rfl ?_); refine box_event ?hg (N := 4) ?hd (cs := #[.int .i64 0, .int .i64 0]) (t := 23) ?hr ?_; (case hd => rfl); (case hg => rfl); (case hr => first | (go_simp; done) | (go_simp; rfl)); intro gb362 hg w69 hbox hb; have n0_ := Aside0.mk (blk_below (g := gb360) (o := .cells #[.int .i64 a0_0, .int .i64 a0_1] 23 (0, 0)) (bk_ BK360.out) hb); have n1_ := Aside0.mk (blk_below (g := gb361) (o := .cells #[.int .i64 a1_0, .int .i64 a1_1] 23 (0, 0)) (bk_ BK361.out) hb); have n2_ := Aside0.mk (below_step HB_ hb); have n3_ := Aside0.mk (hbox); have n4_ := Aside0.mk ((by rw [hg]; exact (below_size HB_) : w.heap.size ≤ gb362)); have n5_ := Aside0.mk ((by rw [hg]; exact (below_size HB_) : w.heap.size ≤ gb362)); have n6_ := Aside0.mk ((by rw [hg]; exact Nat.ne_of_lt (blk_lt (g := gb360) (o := .cells #[.int .i64 a0_0, .int .i64 a0_1] 23 (0, 0)) (bk_ BK360.out)) : gb360 ≠ gb362)); have n7_ := Aside0.mk ((by rw [hg]; exact Nat.ne_of_gt (blk_lt (g := gb360) (o := .cells #[.int .i64 a0_0, .int .i64 a0_1] 23 (0, 0)) (bk_ BK360.out)) : gb362 ≠ gb360)); have n8_ := Aside0.mk ((by rw [hg]; exact Nat.ne_of_lt (blk_lt (g := gb361) (o := .cells #[.int .i64 a1_0, .int .i64 a1_1] 23 (0, 0)) (bk_ BK361.out)) : gb361 ≠ gb362)); have n9_ := Aside0.mk ((by rw [hg]; exact Nat.ne_of_gt (blk_lt (g := gb361) (o := .cells #[.int .i64 a1_0, .int .i64 a1_1] 23 (0, 0)) (bk_ BK361.out)) : gb362 ≠ gb361)); clear BK360; clear BK361; clear HB; have BK360 := n0_; have BK361 := n1_; have HB := n2_; have BK362 := n3_; have GW362 := n4_; have GE362 := n5_; have NB360_362 := n6_; have NB362_360 := n7_; have NB361_362 := n8_; have NB362_361 := n9_; clear n0_ n1_ n2_ n3_ n4_ n5_ n6_ n7_ n8_ n9_; clear hb hbox hg))
          first | (obtain ⟨w69, hq_⟩ : ∃ x, x = w69.drewN nd := ⟨_, rfl⟩; rw [← hq_]; have q0_ := Aside0.mk (blk_drewN BK360.out nd); rw [← hq_] at q0_; have q1_ := Aside0.mk (blk_drewN BK361.out nd); rw [← hq_] at q1_; have q2_ := Aside0.mk (blk_drewN BK362.out nd); rw [← hq_] at q2_; have q3_ := Aside0.mk (pw_below_drewN HB.out nd); rw [← hq_] at q3_; clear BK360; clear BK361; clear BK362; clear HB; have BK360 := q0_; have BK361 := q1_; have BK362 := q2_; have HB := q3_; clear hq_ q0_ q1_ q2_ q3_) | skip
          have n0_ := Aside0.mk (blk_drew BK360.out)
          have n1_ := Aside0.mk (blk_drew BK361.out)
          have n2_ := Aside0.mk (blk_drew BK362.out)
          have n3_ := Aside0.mk (below_drew1 HB.out)
          clear BK360
          clear BK361
          clear BK362
          clear HB
          have BK360 := n0_
          have BK361 := n1_
          have BK362 := n2_
          have HB := n3_
          clear n0_ n1_ n2_ n3_
          refine start_ (n := 6) (S := fun w' => w'.cell? ⟨gb360, 0, none⟩ = some (.int .i64 a0_0) ∧ w'.cell? ⟨gb360, 1, none⟩ = some (.int .i64 a0_1) ∧ w'.cell? ⟨gb361, 0, none⟩ = some (.int .i64 a1_0) ∧ w'.cell? ⟨gb361, 1, none⟩ = some (.int .i64 a1_1)) (ds := [4, 5]) #[false, false, false, false, false, false] (by kernel_rfl) rfl rfl ⟨(blk_cell BK360.out 0).trans rfl, (blk_cell BK360.out 1).trans rfl, (blk_cell BK361.out 0).trans rfl, (blk_cell BK361.out 1).trans rfl⟩ (fun hHeld => ?_)
          generalize w69.drew = w70 at BK360 BK361 BK362 HB hHeld ⊢
          refine take_ (i := 0) (N := some 5) (v := ?_) (a' := ?_) #[true, false, false, false, false, false] rfl rfl (by kernel_rfl) (fun _ _ _ h => h) (Or.inl ⟨by rfl, ?_⟩) hHeld ?_ ?_
          rotate_left
          · rintro w' ⟨s0, s1, s2, s3⟩
            go_simp
            with_reducible rfl
          rotate_left
          · exact AP_
          refine take_ (i := 2) (N := some 7) (v := ?_) (a' := ?_) #[true, false, true, false, false, false] rfl rfl (by kernel_rfl) (fun _ _ _ h => h) (Or.inl ⟨by rfl, ?_⟩) hHeld ?_ ?_
          rotate_left
          · rintro w' ⟨s0, s1, s2, s3⟩
            go_simp
            with_reducible rfl
          rotate_left
          · exact AP_
          refine one_ (i := 1) (N := some 6) #[true, true, true, false, false, false] rfl rfl (by kernel_rfl) (by decide) (fun K hK => ?_)
          refine goes_ Tryd.func10 (by kernel_rfl) rfl #[.agg #[.int .i64 a0_0, .int .i64 a0_1]] (by rfl) rfl rfl MP_ ?_
          with_reducible refine (warrantorref07_Plain.calls k a0_0 a0_1 t363 t364 _ A3.out).mono ?_
          rintro e w71 ⟨rfl, hb⟩
          refine ⟨_, rfl, ?_⟩
          have n0_ := Aside0.mk (blk_below (g := gb360) (o := .cells #[.int .i64 a0_0, .int .i64 a0_1] 23 (0, 0)) (bk_ BK360.out) hb)
          have n1_ := Aside0.mk (blk_below (g := gb361) (o := .cells #[.int .i64 a1_0, .int .i64 a1_1] 23 (0, 0)) (bk_ BK361.out) hb)
          have n2_ := Aside0.mk (blk_below (g := gb362) (o := .cells #[.int .i64 0, .int .i64 0] 23 (0, 0)) (bk_ BK362.out) hb)
          have n3_ := Aside0.mk (below_step HB_ hb)
          clear BK360
          clear BK361
          clear BK362
          clear HB
          have BK360 := n0_
          have BK361 := n1_
          have BK362 := n2_
          have HB := n3_
          clear n0_ n1_ n2_ n3_
          (try clear hb)
          (try clear hb2)
          (try clear hk)
          (try clear hi)
          refine hK.out _ _ ⟨(blk_cell BK360.out 0).trans rfl, (blk_cell BK360.out 1).trans rfl, (blk_cell BK361.out 0).trans rfl, (blk_cell BK361.out 1).trans rfl⟩ (fun hHeld => ?_)
          clear hK K
          refine norm_ (a' := ?_) ?_ ?_
          rotate_left
          · show Act.put _ (some 6) _ = _
            simp only [Act.put, List.setIfInBounds_toArray, List.set_cons_zero, List.set_cons_succ, i64_w, i32_w]
            rfl
          refine one_ (i := 3) (N := some 8) #[true, true, true, true, false, false] rfl rfl (by kernel_rfl) (by decide) (fun K hK => ?_)
          refine goes_ Tryd.func10 (by kernel_rfl) rfl #[.agg #[.int .i64 a1_0, .int .i64 a1_1]] (by rfl) rfl rfl MP_ ?_
          with_reducible refine (warrantorref07_Plain.calls k a1_0 a1_1 t365 t366 _ A4.out).mono ?_
          rintro e w72 ⟨rfl, hb⟩
          refine ⟨_, rfl, ?_⟩
          have n0_ := Aside0.mk (blk_below (g := gb360) (o := .cells #[.int .i64 a0_0, .int .i64 a0_1] 23 (0, 0)) (bk_ BK360.out) hb)
          have n1_ := Aside0.mk (blk_below (g := gb361) (o := .cells #[.int .i64 a1_0, .int .i64 a1_1] 23 (0, 0)) (bk_ BK361.out) hb)
          have n2_ := Aside0.mk (blk_below (g := gb362) (o := .cells #[.int .i64 0, .int .i64 0] 23 (0, 0)) (bk_ BK362.out) hb)
          have n3_ := Aside0.mk (below_step HB_ hb)
          clear BK360
          clear BK361
          clear BK362
          clear HB
          have BK360 := n0_
          have BK361 := n1_
          have BK362 := n2_
          have HB := n3_
          clear n0_ n1_ n2_ n3_
          (try clear hb)
          (try clear hb2)
          (try clear hk)
          (try clear hi)
          refine hK.out _ _ ⟨(blk_cell BK360.out 0).trans rfl, (blk_cell BK360.out 1).trans rfl, (blk_cell BK361.out 0).trans rfl, (blk_cell BK361.out 1).trans rfl⟩ (fun hHeld => ?_)
          clear hK K
          refine norm_ (a' := ?_) ?_ ?_
          rotate_left
          · show Act.put _ (some 8) _ = _
            simp only [Act.put, List.setIfInBounds_toArray, List.set_cons_zero, List.set_cons_succ, i64_w, i32_w]
            rfl
          refine last_ (i := 4) (N := none) #[true, true, true, true, true, false] rfl rfl (by kernel_rfl) (by decide) (fun K hK => ?_)
          have hs73 : w72.cell? ⟨gb360, 0, none⟩ = some (.int .i64 a0_0) := (blk_cell BK360.out 0).trans rfl
          have hfs73 := blk_frozen BK360.out 0
          have hns73_1 := NB361_360.out
          have hns73_2 := NB362_360.out
          have hms73_1 := NB360_361.out
          have hms73_2 := NB360_362.out
          have hs74 : w72.cell? ⟨gb360, 1, none⟩ = some (.int .i64 a0_1) := (blk_cell BK360.out 1).trans rfl
          have hfs74 := blk_frozen BK360.out 1
          have hns74_1 := NB361_360.out
          have hns74_2 := NB362_360.out
          have hms74_1 := NB360_361.out
          have hms74_2 := NB360_362.out
          refine skip_ (w1 := ?_) (by rfl) rfl ?_ ?_
          rotate_left
          · go_simp
            rfl
          refine hK.out _ _ ?_
          clear hK K
          refine last_ (i := 5) (N := none) #[true, true, true, true, true, true] rfl rfl (by kernel_rfl) (by decide) (fun K hK => ?_)
          have hs75 : w72.cell? ⟨gb361, 0, none⟩ = some (.int .i64 a1_0) := (blk_cell BK361.out 0).trans rfl
          have hfs75 := blk_frozen BK361.out 0
          have hns75_0 := NB360_361.out
          have hns75_2 := NB362_361.out
          have hms75_0 := NB361_360.out
          have hms75_2 := NB361_362.out
          have hs76 : w72.cell? ⟨gb361, 1, none⟩ = some (.int .i64 a1_1) := (blk_cell BK361.out 1).trans rfl
          have hfs76 := blk_frozen BK361.out 1
          have hns76_0 := NB360_361.out
          have hns76_2 := NB362_361.out
          have hms76_0 := NB361_360.out
          have hms76_2 := NB361_362.out
          refine skip_ (w1 := ?_) (by rfl) rfl ?_ ?_
          rotate_left
          · go_simp
            rfl
          refine hK.out _ _ ?_
          clear hK K
          refine done_ (by kernel_rfl) ?_
          have hnb77 := NB360_361.out
          have hnc77 := NB361_360.out
          have hnb78 := NB360_362.out
          have hnc78 := NB362_360.out
          have hcz79_0 : w72.cell? ⟨gb360, 0, none⟩ = some (.int .i64 a0_0) := (blk_cell BK360.out 0).trans rfl
          have hcz79_1 : w72.cell? ⟨gb360, 1, none⟩ = some (.int .i64 a0_1) := (blk_cell BK360.out 1).trans rfl
          have hfz79_0 := blk_frozen BK360.out 0
          have hfz79_1 := blk_frozen BK360.out 1
          try go_wp2_with (first | ((with_reducible refine gate_callee (f := 40) rfl ?_); refine goesL_ (some 11) rfl rfl Tryd.func40 (by kernel_rfl) rfl #[.agg #[.int .i64 t363, .int .i64 t364]] rfl MP_ ?_; (with_reducible refine (warrantorref07_empty.calls k t363 t364 false _ A5.out).mono ?_); rintro e w80 ⟨rfl, hb⟩; refine ⟨_, rfl, ?_⟩; have n0_ := Aside0.mk (blk_below (g := gb360) (o := .cells #[.int .i64 t363, .int .i64 t364] 23 (0, 0)) (bk2_ BK360.out) hb); have n1_ := Aside0.mk (blk_below (g := gb361) (o := .cells #[.int .i64 t365, .int .i64 t366] 23 (0, 0)) (bk2_ BK361.out) hb); have n2_ := Aside0.mk (blk_below (g := gb362) (o := .cells #[.int .i64 0, .int .i64 0] 23 (0, 0)) (bk2_ BK362.out) hb); have n3_ := Aside0.mk (below_step HB_ hb); clear BK360; clear BK361; clear BK362; clear HB; have BK360 := n0_; have BK361 := n1_; have BK362 := n2_; have HB := n3_; clear n0_ n1_ n2_ n3_; (try clear hb); (try clear hb2); (try clear hk); (try clear hi); have hnb81 := NB361_362.out; have hnc81 := NB362_361.out; have hcz82_0 : w80.cell? ⟨gb361, 0, none⟩ = some (.int .i64 t365) := (blk_cell BK361.out 0).trans rfl; have hcz82_1 : w80.cell? ⟨gb361, 1, none⟩ = some (.int .i64 t366) := (blk_cell BK361.out 1).trans rfl; have hfz82_0 := blk_frozen BK361.out 0; have hfz82_1 := blk_frozen BK361.out 1) | ((with_reducible refine gate_callee (f := 40) rfl ?_); refine goesL_ (some 15) rfl rfl Tryd.func40 (by kernel_rfl) rfl #[.agg #[.int .i64 t365, .int .i64 t366]] rfl MP_ ?_; (with_reducible refine (warrantorref07_empty.calls k t365 t366 false _ A24.out).mono ?_); rintro e w83 ⟨rfl, hb⟩; refine ⟨_, rfl, ?_⟩; have n0_ := Aside0.mk (blk_below (g := gb360) (o := .cells #[.int .i64 t363, .int .i64 t364] 23 (0, 0)) (bk_ BK360.out) hb); have n1_ := Aside0.mk (blk_below (g := gb361) (o := .cells #[.int .i64 t365, .int .i64 t366] 23 (0, 0)) (bk_ BK361.out) hb); have n2_ := Aside0.mk (blk_below (g := gb362) (o := .cells #[.int .i64 0, .int .i64 0] 23 (0, 0)) (bk_ BK362.out) hb); have n3_ := Aside0.mk (below_step HB_ hb); clear BK360; clear BK361; clear BK362; clear HB; have BK360 := n0_; have BK361 := n1_; have BK362 := n2_; have HB := n3_; clear n0_ n1_ n2_ n3_; (try clear hb); (try clear hb2); (try clear hk); (try clear hi); have hcz84_0 : w83.cell? ⟨gb361, 0, none⟩ = some (.int .i64 t365) := (blk_cell BK361.out 0).trans rfl; have hcz84_1 : w83.cell? ⟨gb361, 1, none⟩ = some (.int .i64 t366) := (blk_cell BK361.out 1).trans rfl; have hfz84_0 := blk_frozen BK361.out 0; have hfz84_1 := blk_frozen BK361.out 1; have hcz85_0 : w83.cell? ⟨gb360, 0, none⟩ = some (.int .i64 t363) := (blk_cell BK360.out 0).trans rfl; have hcz85_1 : w83.cell? ⟨gb360, 1, none⟩ = some (.int .i64 t364) := (blk_cell BK360.out 1).trans rfl; have hfz85_0 := blk_frozen BK360.out 0; have hfz85_1 := blk_frozen BK360.out 1; have hcz86_0 : w83.cell? ⟨gb362, 0, none⟩ = some (.int .i64 0) := (blk_cell BK362.out 0).trans rfl; have hcz86_1 : w83.cell? ⟨gb362, 1, none⟩ = some (.int .i64 0) := (blk_cell BK362.out 1).trans rfl; have hfz86_0 := blk_frozen BK362.out 0; have hfz86_1 := blk_frozen BK362.out 1))
          refine bodyPost_ret (results_cell_row rfl _ _ gb362 23 #[.int .i64 (-1099511627776), .int .i64 t364] (0, 0) _ rfl (bk2_ BK362.out) Tryd.underlying23 rfl (by kernel_rfl)) rfl ?_
          exact ⟨by first | rfl | (simp [errW_none, errW_some] <;> rfl) | (simp [*, errW_none, errW_some] <;> rfl), by repeat (first | (with_reducible first | exact HB.out | apply below_alloc | apply pw_below_drewN | apply below_drew1 | refine below_set ?_ GE360.out | refine below_set ?_ GE361.out | refine below_set ?_ GE362.out) | exact HB.out)⟩
      · rw [if_neg c45] at H
        have c45b0 : decide (t365 < t363) = false := decide_eq_false c45
        clear c45
        by_cases c87 : t366 > t364
        · rw [if_pos c87] at H
          have c87b0 : decide (t364 < t366) = true := decide_eq_true c87
          clear c87
          simp only [Option.some.injEq, Prod.mk.injEq] at H
          obtain ⟨rfl, rfl⟩ := H
          go_enter Tryd.func30, Tryd.ntmps30
          try go_wp2_with (first | ((with_reducible refine gate_dst (N := 2) rfl ?_); refine box_event ?hg (N := 2) ?hd (cs := #[.int .i64 a0_0, .int .i64 a0_1]) (t := 23) ?hr ?_; (case hd => rfl); (case hg => rfl); (case hr => first | (go_simp; done) | (go_simp; rfl)); intro gb360 hg w88 hbox hb; have n0_ := Aside0.mk (below_step HB_ hb); have n1_ := Aside0.mk (hbox); have n2_ := Aside0.mk ((by rw [hg]; exact (below_size HB_) : w.heap.size ≤ gb360)); have n3_ := Aside0.mk ((by rw [hg]; exact (below_size HB_) : w.heap.size ≤ gb360)); clear HB; have HB := n0_; have BK360 := n1_; have GW360 := n2_; have GE360 := n3_; clear n0_ n1_ n2_ n3_; clear hb hbox hg) | ((with_reducible refine gate_dst (N := 3) rfl ?_); refine box_event ?hg (N := 3) ?hd (cs := #[.int .i64 a1_0, .int .i64 a1_1]) (t := 23) ?hr ?_; (case hd => rfl); (case hg => rfl); (case hr => first | (go_simp; done) | (go_simp; rfl)); intro gb361 hg w89 hbox hb; have n0_ := Aside0.mk (blk_below (g := gb360) (o := .cells #[.int .i64 a0_0, .int .i64 a0_1] 23 (0, 0)) (bk_ BK360.out) hb); have n1_ := Aside0.mk (below_step HB_ hb); have n2_ := Aside0.mk (hbox); have n3_ := Aside0.mk ((by rw [hg]; exact (below_size HB_) : w.heap.size ≤ gb361)); have n4_ := Aside0.mk ((by rw [hg]; exact (below_size HB_) : w.heap.size ≤ gb361)); have n5_ := Aside0.mk ((by rw [hg]; exact Nat.ne_of_lt (blk_lt (g := gb360) (o := .cells #[.int .i64 a0_0, .int .i64 a0_1] 23 (0, 0)) (bk_ BK360.out)) : gb360 ≠ gb361)); have n6_ := Aside0.mk ((by rw [hg]; exact Nat.ne_of_gt (blk_lt (g := gb360) (o := .cells #[.int .i64 a0_0, .int .i64 a0_1] 23 (0, 0)) (bk_ BK360.out)) : gb361 ≠ gb360)); clear BK360; clear HB; have BK360 := n0_; have HB := n1_; have BK361 := n2_; have GW361 := n3_; have GE361 := n4_; have NB360_361 := n5_; have NB361_360 := n6_; clear n0_ n1_ n2_ n3_ n4_ n5_ n6_; clear hb hbox hg) | ((with_reducible refine gate_dst (N := 4) rfl ?_); refine box_event ?hg (N := 4) ?hd (cs := #[.int .i64 0, .int .i64 0]) (t := 23) ?hr ?_; (case hd => rfl); (case hg => rfl); (case hr => first | (go_simp; done) | (go_simp; rfl)); intro gb362 hg w90 hbox hb; have n0_ := Aside0.mk (blk_below (g := gb360) (o := .cells #[.int .i64 a0_0, .int .i64 a0_1] 23 (0, 0)) (bk_ BK360.out) hb); have n1_ := Aside0.mk (blk_below (g := gb361) (o := .cells #[.int .i64 a1_0, .int .i64 a1_1] 23 (0, 0)) (bk_ BK361.out) hb); have n2_ := Aside0.mk (below_step HB_ hb); have n3_ := Aside0.mk (hbox); have n4_ := Aside0.mk ((by rw [hg]; exact (below_size HB_) : w.heap.size ≤ gb362)); have n5_ := Aside0.mk ((by rw [hg]; exact (below_size HB_) : w.heap.size ≤ gb362)); have n6_ := Aside0.mk ((by rw [hg]; exact Nat.ne_of_lt (blk_lt (g := gb360) (o := .cells #[.int .i64 a0_0, .int .i64 a0_1] 23 (0, 0)) (bk_ BK360.out)) : gb360 ≠ gb362)); have n7_ := Aside0.mk ((by rw [hg]; exact Nat.ne_of_gt (blk_lt (g := gb360) (o := .cells #[.int .i64 a0_0, .int .i64 a0_1] 23 (0, 0)) (bk_ BK360.out)) : gb362 ≠ gb360)); have n8_ := Aside0.mk ((by rw [hg]; exact Nat.ne_of_lt (blk_lt (g := gb361) (o := .cells #[.int .i64 a1_0, .int .i64 a1_1] 23 (0, 0)) (bk_ BK361.out)) : gb361 ≠ gb362)); have n9_ := Aside0.mk ((by rw [hg]; exact Nat.ne_of_gt (blk_lt (g := gb361) (o := .cells #[.int .i64 a1_0, .int .i64 a1_1] 23 (0, 0)) (bk_ BK361.out)) : gb362 ≠ gb361)); clear BK360; clear BK361; clear HB; have BK360 := n0_; have BK361 := n1_; have HB := n2_; have BK362 := n3_; have GW362 := n4_; have GE362 := n5_; have NB360_362 := n6_; have NB362_360 := n7_; have NB361_362 := n8_; have NB362_361 := n9_; clear n0_ n1_ n2_ n3_ n4_ n5_ n6_ n7_ n8_ n9_; clear hb hbox hg))
          first | (obtain ⟨w90, hq_⟩ : ∃ x, x = w90.drewN nd := ⟨_, rfl⟩; rw [← hq_]; have q0_ := Aside0.mk (blk_drewN BK360.out nd); rw [← hq_] at q0_; have q1_ := Aside0.mk (blk_drewN BK361.out nd); rw [← hq_] at q1_; have q2_ := Aside0.mk (blk_drewN BK362.out nd); rw [← hq_] at q2_; have q3_ := Aside0.mk (pw_below_drewN HB.out nd); rw [← hq_] at q3_; clear BK360; clear BK361; clear BK362; clear HB; have BK360 := q0_; have BK361 := q1_; have BK362 := q2_; have HB := q3_; clear hq_ q0_ q1_ q2_ q3_) | skip
          have n0_ := Aside0.mk (blk_drew BK360.out)
          have n1_ := Aside0.mk (blk_drew BK361.out)
          have n2_ := Aside0.mk (blk_drew BK362.out)
          have n3_ := Aside0.mk (below_drew1 HB.out)
          clear BK360
          clear BK361
          clear BK362
          clear HB
          have BK360 := n0_
          have BK361 := n1_
          have BK362 := n2_
          have HB := n3_
          clear n0_ n1_ n2_ n3_
          refine start_ (n := 6) (S := fun w' => w'.cell? ⟨gb360, 0, none⟩ = some (.int .i64 a0_0) ∧ w'.cell? ⟨gb360, 1, none⟩ = some (.int .i64 a0_1) ∧ w'.cell? ⟨gb361, 0, none⟩ = some (.int .i64 a1_0) ∧ w'.cell? ⟨gb361, 1, none⟩ = some (.int .i64 a1_1)) (ds := [4, 5]) #[false, false, false, false, false, false] (by kernel_rfl) rfl rfl ⟨(blk_cell BK360.out 0).trans rfl, (blk_cell BK360.out 1).trans rfl, (blk_cell BK361.out 0).trans rfl, (blk_cell BK361.out 1).trans rfl⟩ (fun hHeld => ?_)
          generalize w90.drew = w91 at BK360 BK361 BK362 HB hHeld ⊢
          refine take_ (i := 0) (N := some 5) (v := ?_) (a' := ?_) #[true, false, false, false, false, false] rfl rfl (by kernel_rfl) (fun _ _ _ h => h) (Or.inl ⟨by rfl, ?_⟩) hHeld ?_ ?_
          rotate_left
          · rintro w' ⟨s0, s1, s2, s3⟩
            go_simp
            with_reducible rfl
          rotate_left
          · exact AP_
          refine take_ (i := 2) (N := some 7) (v := ?_) (a' := ?_) #[true, false, true, false, false, false] rfl rfl (by kernel_rfl) (fun _ _ _ h => h) (Or.inl ⟨by rfl, ?_⟩) hHeld ?_ ?_
          rotate_left
          · rintro w' ⟨s0, s1, s2, s3⟩
            go_simp
            with_reducible rfl
          rotate_left
          · exact AP_
          refine one_ (i := 1) (N := some 6) #[true, true, true, false, false, false] rfl rfl (by kernel_rfl) (by decide) (fun K hK => ?_)
          refine goes_ Tryd.func10 (by kernel_rfl) rfl #[.agg #[.int .i64 a0_0, .int .i64 a0_1]] (by rfl) rfl rfl MP_ ?_
          with_reducible refine (warrantorref07_Plain.calls k a0_0 a0_1 t363 t364 _ A3.out).mono ?_
          rintro e w92 ⟨rfl, hb⟩
          refine ⟨_, rfl, ?_⟩
          have n0_ := Aside0.mk (blk_below (g := gb360) (o := .cells #[.int .i64 a0_0, .int .i64 a0_1] 23 (0, 0)) (bk_ BK360.out) hb)
          have n1_ := Aside0.mk (blk_below (g := gb361) (o := .cells #[.int .i64 a1_0, .int .i64 a1_1] 23 (0, 0)) (bk_ BK361.out) hb)
          have n2_ := Aside0.mk (blk_below (g := gb362) (o := .cells #[.int .i64 0, .int .i64 0] 23 (0, 0)) (bk_ BK362.out) hb)
          have n3_ := Aside0.mk (below_step HB_ hb)
          clear BK360
          clear BK361
          clear BK362
          clear HB
          have BK360 := n0_
          have BK361 := n1_
          have BK362 := n2_
          have HB := n3_
          clear n0_ n1_ n2_ n3_
          (try clear hb)
          (try clear hb2)
          (try clear hk)
          (try clear hi)
          refine hK.out _ _ ⟨(blk_cell BK360.out 0).trans rfl, (blk_cell BK360.out 1).trans rfl, (blk_cell BK361.out 0).trans rfl, (blk_cell BK361.out 1).trans rfl⟩ (fun hHeld => ?_)
          clear hK K
          refine norm_ (a' := ?_) ?_ ?_
          rotate_left
          · show Act.put _ (some 6) _ = _
            simp only [Act.put, List.setIfInBounds_toArray, List.set_cons_zero, List.set_cons_succ, i64_w, i32_w]
            rfl
          refine one_ (i := 3) (N := some 8) #[true, true, true, true, false, false] rfl rfl (by kernel_rfl) (by decide) (fun K hK => ?_)
          refine goes_ Tryd.func10 (by kernel_rfl) rfl #[.agg #[.int .i64 a1_0, .int .i64 a1_1]] (by rfl) rfl rfl MP_ ?_
          with_reducible refine (warrantorref07_Plain.calls k a1_0 a1_1 t365 t366 _ A4.out).mono ?_
          rintro e w93 ⟨rfl, hb⟩
          refine ⟨_, rfl, ?_⟩
          have n0_ := Aside0.mk (blk_below (g := gb360) (o := .cells #[.int .i64 a0_0, .int .i64 a0_1] 23 (0, 0)) (bk_ BK360.out) hb)
          have n1_ := Aside0.mk (blk_below (g := gb361) (o := .cells #[.int .i64 a1_0, .int .i64 a1_1] 23 (0, 0)) (bk_ BK361.out) hb)
          have n2_ := Aside0.mk (blk_below (g := gb362) (o := .cells #[.int .i64 0, .int .i64 0] 23 (0, 0)) (bk_ BK362.out) hb)
          have n3_ := Aside0.mk (below_step HB_ hb)
          clear BK360
          clear BK361
          clear BK362
          clear HB
          have BK360 := n0_
          have BK361 := n1_
          have BK362 := n2_
          have HB := n3_
          clear n0_ n1_ n2_ n3_
          (try clear hb)
          (try clear hb2)
          (try clear hk)
          (try clear hi)
          refine hK.out _ _ ⟨(blk_cell BK360.out 0).trans rfl, (blk_cell BK360.out 1).trans rfl, (blk_cell BK361.out 0).trans rfl, (blk_cell BK361.out 1).trans rfl⟩ (fun hHeld => ?_)
          clear hK K
          refine norm_ (a' := ?_) ?_ ?_
          rotate_left
          · show Act.put _ (some 8) _ = _
            simp only [Act.put, List.setIfInBounds_toArray, List.set_cons_zero, List.set_cons_succ, i64_w, i32_w]
            rfl
          refine last_ (i := 4) (N := none) #[true, true, true, true, true, false] rfl rfl (by kernel_rfl) (by decide) (fun K hK => ?_)
          have hs94 : w93.cell? ⟨gb360, 0, none⟩ = some (.int .i64 a0_0) := (blk_cell BK360.out 0).trans rfl
          have hfs94 := blk_frozen BK360.out 0
          have hns94_1 := NB361_360.out
          have hns94_2 := NB362_360.out
          have hms94_1 := NB360_361.out
          have hms94_2 := NB360_362.out
          have hs95 : w93.cell? ⟨gb360, 1, none⟩ = some (.int .i64 a0_1) := (blk_cell BK360.out 1).trans rfl
          have hfs95 := blk_frozen BK360.out 1
          have hns95_1 := NB361_360.out
          have hns95_2 := NB362_360.out
          have hms95_1 := NB360_361.out
          have hms95_2 := NB360_362.out
          refine skip_ (w1 := ?_) (by rfl) rfl ?_ ?_
          rotate_left
          · go_simp
            rfl
          refine hK.out _ _ ?_
          clear hK K
          refine last_ (i := 5) (N := none) #[true, true, true, true, true, true] rfl rfl (by kernel_rfl) (by decide) (fun K hK => ?_)
          have hs96 : w93.cell? ⟨gb361, 0, none⟩ = some (.int .i64 a1_0) := (blk_cell BK361.out 0).trans rfl
          have hfs96 := blk_frozen BK361.out 0
          have hns96_0 := NB360_361.out
          have hns96_2 := NB362_361.out
          have hms96_0 := NB361_360.out
          have hms96_2 := NB361_362.out
          have hs97 : w93.cell? ⟨gb361, 1, none⟩ = some (.int .i64 a1_1) := (blk_cell BK361.out 1).trans rfl
          have hfs97 := blk_frozen BK361.out 1
          have hns97_0 := NB360_361.out
          have hns97_2 := NB362_361.out
          have hms97_0 := NB361_360.out
          have hms97_2 := NB361_362.out
          refine skip_ (w1 := ?_) (by rfl) rfl ?_ ?_
          rotate_left
          · go_simp
            rfl
          refine hK.out _ _ ?_
          clear hK K
          refine done_ (by kernel_rfl) ?_
          have hnb98 := NB360_361.out
          have hnc98 := NB361_360.out
          have hnb99 := NB360_362.out
          have hnc99 := NB362_360.out
          have hcz100_0 : w93.cell? ⟨gb360, 0, none⟩ = some (.int .i64 a0_0) := (blk_cell BK360.out 0).trans rfl
          have hcz100_1 : w93.cell? ⟨gb360, 1, none⟩ = some (.int .i64 a0_1) := (blk_cell BK360.out 1).trans rfl
          have hfz100_0 := blk_frozen BK360.out 0
          have hfz100_1 := blk_frozen BK360.out 1
          try go_wp2_with (first | ((with_reducible refine gate_callee (f := 40) rfl ?_); refine goesL_ (some 11) rfl rfl Tryd.func40 (by kernel_rfl) rfl #[.agg #[.int .i64 t363, .int .i64 t364]] rfl MP_ ?_; (with_reducible refine (warrantorref07_empty.calls k t363 t364 false _ A5.out).mono ?_); rintro e w101 ⟨rfl, hb⟩; refine ⟨_, rfl, ?_⟩; have n0_ := Aside0.mk (blk_below (g := gb360) (o := .cells #[.int .i64 t363, .int .i64 t364] 23 (0, 0)) (bk2_ BK360.out) hb); have n1_ := Aside0.mk (blk_below (g := gb361) (o := .cells #[.int .i64 t365, .int .i64 t366] 23 (0, 0)) (bk2_ BK361.out) hb); have n2_ := Aside0.mk (blk_below (g := gb362) (o := .cells #[.int .i64 0, .int .i64 0] 23 (0, 0)) (bk2_ BK362.out) hb); have n3_ := Aside0.mk (below_step HB_ hb); clear BK360; clear BK361; clear BK362; clear HB; have BK360 := n0_; have BK361 := n1_; have BK362 := n2_; have HB := n3_; clear n0_ n1_ n2_ n3_; (try clear hb); (try clear hb2); (try clear hk); (try clear hi); have hnb102 := NB361_362.out; have hnc102 := NB362_361.out; have hcz103_0 : w101.cell? ⟨gb361, 0, none⟩ = some (.int .i64 t365) := (blk_cell BK361.out 0).trans rfl; have hcz103_1 : w101.cell? ⟨gb361, 1, none⟩ = some (.int .i64 t366) := (blk_cell BK361.out 1).trans rfl; have hfz103_0 := blk_frozen BK361.out 0; have hfz103_1 := blk_frozen BK361.out 1) | ((with_reducible refine gate_callee (f := 40) rfl ?_); refine goesL_ (some 15) rfl rfl Tryd.func40 (by kernel_rfl) rfl #[.agg #[.int .i64 t365, .int .i64 t366]] rfl MP_ ?_; (with_reducible refine (warrantorref07_empty.calls k t365 t366 false _ A24.out).mono ?_); rintro e w104 ⟨rfl, hb⟩; refine ⟨_, rfl, ?_⟩; have n0_ := Aside0.mk (blk_below (g := gb360) (o := .cells #[.int .i64 t363, .int .i64 t364] 23 (0, 0)) (bk_ BK360.out) hb); have n1_ := Aside0.mk (blk_below (g := gb361) (o := .cells #[.int .i64 t365, .int .i64 t366] 23 (0, 0)) (bk_ BK361.out) hb); have n2_ := Aside0.mk (blk_below (g := gb362) (o := .cells #[.int .i64 0, .int .i64 0] 23 (0, 0)) (bk_ BK362.out) hb); have n3_ := Aside0.mk (below_step HB_ hb); clear BK360; clear BK361; clear BK362; clear HB; have BK360 := n0_; have BK361 := n1_; have BK362 := n2_; have HB := n3_; clear n0_ n1_ n2_ n3_; (try clear hb); (try clear hb2); (try clear hk); (try clear hi); have hcz105_0 : w104.cell? ⟨gb361, 0, none⟩ = some (.int .i64 t365) := (blk_cell BK361.out 0).trans rfl; have hcz105_1 : w104.cell? ⟨gb361, 1, none⟩ = some (.int .i64 t366) := (blk_cell BK361.out 1).trans rfl; have hfz105_0 := blk_frozen BK361.out 0; have hfz105_1 := blk_frozen BK361.out 1; have hcz106_0 : w104.cell? ⟨gb360, 0, none⟩ = some (.int .i64 t363) := (blk_cell BK360.out 0).trans rfl; have hcz106_1 : w104.cell? ⟨gb360, 1, none⟩ = some (.int .i64 t364) := (blk_cell BK360.out 1).trans rfl; have hfz106_0 := blk_frozen BK360.out 0; have hfz106_1 := blk_frozen BK360.out 1; have hcz107_0 : w104.cell? ⟨gb362, 0, none⟩ = some (.int .i64 0) := (blk_cell BK362.out 0).trans rfl; have hcz107_1 : w104.cell? ⟨gb362, 1, none⟩ = some (.int .i64 0) := (blk_cell BK362.out 1).trans rfl; have hfz107_0 := blk_frozen BK362.out 0; have hfz107_1 := blk_frozen BK362.out 1))
          refine bodyPost_ret (results_cell_row rfl _ _ gb362 23 #[.int .i64 t363, .int .i64 1099511627776] (0, 0) _ rfl (bk2_ BK362.out) Tryd.underlying23 rfl (by kernel_rfl)) rfl ?_
          exact ⟨by first | rfl | (simp [errW_none, errW_some] <;> rfl) | (simp [*, errW_none, errW_some] <;> rfl), by repeat (first | (with_reducible first | exact HB.out | apply below_alloc | apply pw_below_drewN | apply below_drew1 | refine below_set ?_ GE360.out | refine below_set ?_ GE361.out | refine below_set ?_ GE362.out) | exact HB.out)⟩
        · rw [if_neg c87] at H
          have c87b0 : decide (t364 < t366) = false := decide_eq_false c87
          clear c87
          simp only [Option.some.injEq, Prod.mk.injEq] at H
          obtain ⟨rfl, rfl⟩ := H
          go_enter Tryd.func30, Tryd.ntmps30
          try go_wp2_with (first | ((with_reducible refine gate_dst (N := 2) rfl ?_); refine box_event ?hg (N := 2) ?hd (cs := #[.int .i64 a0_0, .int .i64 a0_1]) (t := 23) ?hr ?_; (case hd => rfl); (case hg => rfl); (case hr => first | (go_simp; done) | (go_simp; rfl)); intro gb360 hg w108 hbox hb; have n0_ := Aside0.mk (below_step HB_ hb); have n1_ := Aside0.mk (hbox); have n2_ := Aside0.mk ((by rw [hg]; exact (below_size HB_) : w.heap.size ≤ gb360)); have n3_ := Aside0.mk ((by rw [hg]; exact (below_size HB_) : w.heap.size ≤ gb360)); clear HB; have HB := n0_; have BK360 := n1_; have GW360 := n2_; have GE360 := n3_; clear n0_ n1_ n2_ n3_; clear hb hbox hg) | ((with_reducible refine gate_dst (N := 3) rfl ?_); refine box_event ?hg (N := 3) ?hd (cs := #[.int .i64 a1_0, .int .i64 a1_1]) (t := 23) ?hr ?_; (case hd => rfl); (case hg => rfl); (case hr => first | (go_simp; done) | (go_simp; rfl)); intro gb361 hg w109 hbox hb; have n0_ := Aside0.mk (blk_below (g := gb360) (o := .cells #[.int .i64 a0_0, .int .i64 a0_1] 23 (0, 0)) (bk_ BK360.out) hb); have n1_ := Aside0.mk (below_step HB_ hb); have n2_ := Aside0.mk (hbox); have n3_ := Aside0.mk ((by rw [hg]; exact (below_size HB_) : w.heap.size ≤ gb361)); have n4_ := Aside0.mk ((by rw [hg]; exact (below_size HB_) : w.heap.size ≤ gb361)); have n5_ := Aside0.mk ((by rw [hg]; exact Nat.ne_of_lt (blk_lt (g := gb360) (o := .cells #[.int .i64 a0_0, .int .i64 a0_1] 23 (0, 0)) (bk_ BK360.out)) : gb360 ≠ gb361)); have n6_ := Aside0.mk ((by rw [hg]; exact Nat.ne_of_gt (blk_lt (g := gb360) (o := .cells #[.int .i64 a0_0, .int .i64 a0_1] 23 (0, 0)) (bk_ BK360.out)) : gb361 ≠ gb360)); clear BK360; clear HB; have BK360 := n0_; have HB := n1_; have BK361 := n2_; have GW361 := n3_; have GE361 := n4_; have NB360_361 := n5_; have NB361_360 := n6_; clear n0_ n1_ n2_ n3_ n4_ n5_ n6_; clear hb hbox hg) | ((with_reducible refine gate_dst (N := 4) rfl ?_); refine box_event ?hg (N := 4) ?hd (cs := #[.int .i64 0, .int .i64 0]) (t := 23) ?hr ?_; (case hd => rfl); (case hg => rfl); (case hr => first | (go_simp; done) | (go_simp; rfl)); intro gb362 hg w110 hbox hb; have n0_ := Aside0.mk (blk_below (g := gb360) (o := .cells #[.int .i64 a0_0, .int .i64 a0_1] 23 (0, 0)) (bk_ BK360.out) hb); have n1_ := Aside0.mk (blk_below (g := gb361) (o := .cells #[.int .i64 a1_0, .int .i64 a1_1] 23 (0, 0)) (bk_ BK361.out) hb); have n2_ := Aside0.mk (below_step HB_ hb); have n3_ := Aside0.mk (hbox); have n4_ := Aside0.mk ((by rw [hg]; exact (below_size HB_) : w.heap.size ≤ gb362)); have n5_ := Aside0.mk ((by rw [hg]; exact (below_size HB_) : w.heap.size ≤ gb362)); have n6_ := Aside0.mk ((by rw [hg]; exact Nat.ne_of_lt (blk_lt (g := gb360) (o := .cells #[.int .i64 a0_0, .int .i64 a0_1] 23 (0, 0)) (bk_ BK360.out)) : gb360 ≠ gb362)); have n7_ := Aside0.mk ((by rw [hg]; exact Nat.ne_of_gt (blk_lt (g := gb360) (o := .cells #[.int .i64 a0_0, .int .i64 a0_1] 23 (0, 0)) (bk_ BK360.out)) : gb362 ≠ gb360)); have n8_ := Aside0.mk ((by rw [hg]; exact Nat.ne_of_lt (blk_lt (g := gb361) (o := .cells #[.int .i64 a1_0, .int .i64 a1_1] 23 (0, 0)) (bk_ BK361.out)) : gb361 ≠ gb362)); have n9_ := Aside0.mk ((by rw [hg]; exact Nat.ne_of_gt (blk_lt (g := gb361) (o := .cells #[.int .i64 a1_0, .int .i64 a1_1] 23 (0, 0)) (bk_ BK361.out)) : gb362 ≠ gb361)); clear BK360; clear BK361; clear HB; have BK360 := n0_; have BK361 := n1_; have HB := n2_; have BK362 := n3_; have GW362 := n4_; have GE362 := n5_; have NB360_362 := n6_; have NB362_360 := n7_; have NB361_362 := n8_; have NB362_361 := n9_; clear n0_ n1_ n2_ n3_ n4_ n5_ n6_ n7_ n8_ n9_; clear hb hbox hg))
          first | (obtain ⟨w110, hq_⟩ : ∃ x, x = w110.drewN nd := ⟨_, rfl⟩; rw [← hq_]; have q0_ := Aside0.mk (blk_drewN BK360.out nd); rw [← hq_] at q0_; have q1_ := Aside0.mk (blk_drewN BK361.out nd); rw [← hq_] at q1_; have q2_ := Aside0.mk (blk_drewN BK362.out nd); rw [← hq_] at q2_; have q3_ := Aside0.mk (pw_below_drewN HB.out nd); rw [← hq_] at q3_; clear BK360; clear BK361; clear BK362; clear HB; have BK360 := q0_; have BK361 := q1_; have BK362 := q2_; have HB := q3_; clear hq_ q0_ q1_ q2_ q3_) | skip
          have n0_ := Aside0.mk (blk_drew BK360.out)
          have n1_ := Aside0.mk (blk_drew BK361.out)
          have n2_ := Aside0.mk (blk_drew BK362.out)
          have n3_ := Aside0.mk (below_drew1 HB.out)
          clear BK360
          clear BK361
          clear BK362
          clear HB
          have BK360 := n0_
          have BK361 := n1_
          have BK362 := n2_
          have HB := n3_
          clear n0_ n1_ n2_ n3_
          refine start_ (n := 6) (S := fun w' => w'.cell? ⟨gb360, 0, none⟩ = some (.int .i64 a0_0) ∧ w'.cell? ⟨gb360, 1, none⟩ = some (.int .i64 a0_1) ∧ w'.cell? ⟨gb361, 0, none⟩ = some (.int .i64 a1_0) ∧ w'.cell? ⟨gb361, 1, none⟩ = some (.int .i64 a1_1)) (ds := [4, 5]) #[false, false, false, false, false, false] (by kernel_rfl) rfl rfl ⟨(blk_cell BK360.out 0).trans rfl, (blk_cell BK360.out 1).trans rfl, (blk_cell BK361.out 0).trans rfl, (blk_cell BK361.out 1).trans rfl⟩ (fun hHeld => ?_)
          generalize w110.drew = w111 at BK360 BK361 BK362 HB hHeld ⊢
          refine take_ (i := 0) (N := some 5) (v := ?_) (a' := ?_) #[true, false, false, false, false, false] rfl rfl (by kernel_rfl) (fun _ _ _ h => h) (Or.inl ⟨by rfl, ?_⟩) hHeld ?_ ?_
          rotate_left
          · rintro w' ⟨s0, s1, s2, s3⟩
            go_simp
            with_reducible rfl
          rotate_left
          · exact AP_
          refine take_ (i := 2) (N := some 7) (v := ?_) (a' := ?_) #[true, false, true, false, false, false] rfl rfl (by kernel_rfl) (fun _ _ _ h => h) (Or.inl ⟨by rfl, ?_⟩) hHeld ?_ ?_
          rotate_left
          · rintro w' ⟨s0, s1, s2, s3⟩
            go_simp
            with_reducible rfl
          rotate_left
          · exact AP_
          refine one_ (i := 1) (N := some 6) #[true, true, true, false, false, false] rfl rfl (by kernel_rfl) (by decide) (fun K hK => ?_)
          refine goes_ Tryd.func10 (by kernel_rfl) rfl #[.agg #[.int .i64 a0_0, .int .i64 a0_1]] (by rfl) rfl rfl MP_ ?_
          with_reducible refine (warrantorref07_Plain.calls k a0_0 a0_1 t363 t364 _ A3.out).mono ?_
          rintro e w112 ⟨rfl, hb⟩
          refine ⟨_, rfl, ?_⟩
          have n0_ := Aside0.mk (blk_below (g := gb360) (o := .cells #[.int .i64 a0_0, .int .i64 a0_1] 23 (0, 0)) (bk_ BK360.out) hb)
          have n1_ := Aside0.mk (blk_below (g := gb361) (o := .cells #[.int .i64 a1_0, .int .i64 a1_1] 23 (0, 0)) (bk_ BK361.out) hb)
          have n2_ := Aside0.mk (blk_below (g := gb362) (o := .cells #[.int .i64 0, .int .i64 0] 23 (0, 0)) (bk_ BK362.out) hb)
          have n3_ := Aside0.mk (below_step HB_ hb)
          clear BK360
          clear BK361
          clear BK362
          clear HB
          have BK360 := n0_
          have BK361 := n1_
          have BK362 := n2_
          have HB := n3_
          clear n0_ n1_ n2_ n3_
          (try clear hb)
          (try clear hb2)
          (try clear hk)
          (try clear hi)
          refine hK.out _ _ ⟨(blk_cell BK360.out 0).trans rfl, (blk_cell BK360.out 1).trans rfl, (blk_cell BK361.out 0).trans rfl, (blk_cell BK361.out 1).trans rfl⟩ (fun hHeld => ?_)
          clear hK K
          refine norm_ (a' := ?_) ?_ ?_
          rotate_left
          · show Act.put _ (some 6) _ = _
            simp only [Act.put, List.setIfInBounds_toArray, List.set_cons_zero, List.set_cons_succ, i64_w, i32_w]
            rfl
          refine one_ (i := 3) (N := some 8) #[true, true, true, true, false, false] rfl rfl (by kernel_rfl) (by decide) (fun K hK => ?_)
          refine goes_ Tryd.func10 (by kernel_rfl) rfl #[.agg #[.int .i64 a1_0, .int .i64 a1_1]] (by rfl) rfl rfl MP_ ?_
          with_reducible refine (warrantorref07_Plain.calls k a1_0 a1_1 t365 t366 _ A4.out).mono ?_
          rintro e w113 ⟨rfl, hb⟩
          refine ⟨_, rfl, ?_⟩
          have n0_ := Aside0.mk (blk_below (g := gb360) (o := .cells #[.int .i64 a0_0, .int .i64 a0_1] 23 (0, 0)) (bk_ BK360.out) hb)
          have n1_ := Aside0.mk (blk_below (g := gb361) (o := .cells #[.int .i64 a1_0, .int .i64 a1_1] 23 (0, 0)) (bk_ BK361.out) hb)
          have n2_ := Aside0.mk (blk_below (g := gb362) (o := .cells #[.int .i64 0, .int .i64 0] 23 (0, 0)) (bk_ BK362.out) hb)
          have n3_ := Aside0.mk (below_step HB_ hb)
          clear BK360
          clear BK361
          clear BK362
          clear HB
          have BK360 := n0_
          have BK361 := n1_
          have BK362 := n2_
          have HB := n3_
          clear n0_ n1_ n2_ n3_
          (try clear hb)
          (try clear hb2)
          (try clear hk)
          (try clear hi)
          refine hK.out _ _ ⟨(blk_cell BK360.out 0).trans rfl, (blk_cell BK360.out 1).trans rfl, (blk_cell BK361.out 0).trans rfl, (blk_cell BK361.out 1).trans rfl⟩ (fun hHeld => ?_)
          clear hK K
          refine norm_ (a' := ?_) ?_ ?_
          rotate_left
          · show Act.put _ (some 8) _ = _
            simp only [Act.put, List.setIfInBounds_toArray, List.set_cons_zero, List.set_cons_succ, i64_w, i32_w]
            rfl
          refine last_ (i := 4) (N := none) #[true, true, true, true, true, false] rfl rfl (by kernel_rfl) (by decide) (fun K hK => ?_)
          have hs114 : w113.cell? ⟨gb360, 0, none⟩ = some (.int .i64 a0_0) := (blk_cell BK360.out 0).trans rfl
          have hfs114 := blk_frozen BK360.out 0
          have hns114_1 := NB361_360.out
          have hns114_2 := NB362_360.out
          have hms114_1 := NB360_361.out
          have hms114_2 := NB360_362.out
          have hs115 : w113.cell? ⟨gb360, 1, none⟩ = some (.int .i64 a0_1) := (blk_cell BK360.out 1).trans rfl
          have hfs115 := blk_frozen BK360.out 1
          have hns115_1 := NB361_360.out
          have hns115_2 := NB362_360.out
          have hms115_1 := NB360_361.out
          have hms115_2 := NB360_362.out
          refine skip_ (w1 := ?_) (by rfl) rfl ?_ ?_
          rotate_left
          · go_simp
            rfl
          refine hK.out _ _ ?_
          clear hK K
          refine last_ (i := 5) (N := none) #[true, true, true, true, true, true] rfl rfl (by kernel_rfl) (by decide) (fun K hK => ?_)
          have hs116 : w113.cell? ⟨gb361, 0, none⟩ = some (.int .i64 a1_0) := (blk_cell BK361.out 0).trans rfl
          have hfs116 := blk_frozen BK361.out 0
          have hns116_0 := NB360_361.out
          have hns116_2 := NB362_361.out
          have hms116_0 := NB361_360.out
          have hms116_2 := NB361_362.out
          have hs117 : w113.cell? ⟨gb361, 1, none⟩ = some (.int .i64 a1_1) := (blk_cell BK361.out 1).trans rfl
          have hfs117 := blk_frozen BK361.out 1
          have hns117_0 := NB360_361.out
          have hns117_2 := NB362_361.out
          have hms117_0 := NB361_360.out
          have hms117_2 := NB361_362.out
          refine skip_ (w1 := ?_) (by rfl) rfl ?_ ?_
          rotate_left
          · go_simp
            rfl
          refine hK.out _ _ ?_
          clear hK K
          refine done_ (by kernel_rfl) ?_
          have hnb118 := NB360_361.out
          have hnc118 := NB361_360.out
          have hnb119 := NB360_362.out
          have hnc119 := NB362_360.out
          have hcz120_0 : w113.cell? ⟨gb360, 0, none⟩ = some (.int .i64 a0_0) := (blk_cell BK360.out 0).trans rfl
          have hcz120_1 : w113.cell? ⟨gb360, 1, none⟩ = some (.int .i64 a0_1) := (blk_cell BK360.out 1).trans rfl
          have hfz120_0 := blk_frozen BK360.out 0
          have hfz120_1 := blk_frozen BK360.out 1
          try go_wp2_with (first | ((with_reducible refine gate_callee (f := 40) rfl ?_); refine goesL_ (some 11) rfl rfl Tryd.func40 (by kernel_rfl) rfl #[.agg #[.int .i64 t363, .int .i64 t364]] rfl MP_ ?_; (with_reducible refine (warrantorref07_empty.calls k t363 t364 false _ A5.out).mono ?_); rintro e w121 ⟨rfl, hb⟩; refine ⟨_, rfl, ?_⟩; have n0_ := Aside0.mk (blk_below (g := gb360) (o := .cells #[.int .i64 t363, .int .i64 t364] 23 (0, 0)) (bk2_ BK360.out) hb); have n1_ := Aside0.mk (blk_below (g := gb361) (o := .cells #[.int .i64 t365, .int .i64 t366] 23 (0, 0)) (bk2_ BK361.out) hb); have n2_ := Aside0.mk (blk_below (g := gb362) (o := .cells #[.int .i64 0, .int .i64 0] 23 (0, 0)) (bk2_ BK362.out) hb); have n3_ := Aside0.mk (below_step HB_ hb); clear BK360; clear BK361; clear BK362; clear HB; have BK360 := n0_; have BK361 := n1_; have BK362 := n2_; have HB := n3_; clear n0_ n1_ n2_ n3_; (try clear hb); (try clear hb2); (try clear hk); (try clear hi); have hnb122 := NB361_362.out; have hnc122 := NB362_361.out; have hcz123_0 : w121.cell? ⟨gb361, 0, none⟩ = some (.int .i64 t365) := (blk_cell BK361.out 0).trans rfl; have hcz123_1 : w121.cell? ⟨gb361, 1, none⟩ = some (.int .i64 t366) := (blk_cell BK361.out 1).trans rfl; have hfz123_0 := blk_frozen BK361.out 0; have hfz123_1 := blk_frozen BK361.out 1) | ((with_reducible refine gate_callee (f := 40) rfl ?_); refine goesL_ (some 15) rfl rfl Tryd.func40 (by kernel_rfl) rfl #[.agg #[.int .i64 t365, .int .i64 t366]] rfl MP_ ?_; (with_reducible refine (warrantorref07_empty.calls k t365 t366 false _ A24.out).mono ?_); rintro e w124 ⟨rfl, hb⟩; refine ⟨_, rfl, ?_⟩; have n0_ := Aside0.mk (blk_below (g := gb360) (o := .cells #[.int .i64 t363, .int .i64 t364] 23 (0, 0)) (bk_ BK360.out) hb); have n1_ := Aside0.mk (blk_below (g := gb361) (o := .cells #[.int .i64 t365, .int .i64 t366] 23 (0, 0)) (bk_ BK361.out) hb); have n2_ := Aside0.mk (blk_below (g := gb362) (o := .cells #[.int .i64 0, .int .i64 0] 23 (0, 0)) (bk_ BK362.out) hb); have n3_ := Aside0.mk (below_step HB_ hb); clear BK360; clear BK361; clear BK362; clear HB; have BK360 := n0_; have BK361 := n1_; have BK362 := n2_; have HB := n3_; clear n0_ n1_ n2_ n3_; (try clear hb); (try clear hb2); (try clear hk); (try clear hi); have hcz125_0 : w124.cell? ⟨gb361, 0, none⟩ = some (.int .i64 t365) := (blk_cell BK361.out 0).trans rfl; have hcz125_1 : w124.cell? ⟨gb361, 1, none⟩ = some (.int .i64 t366) := (blk_cell BK361.out 1).trans rfl; have hfz125_0 := blk_frozen BK361.out 0; have hfz125_1 := blk_frozen BK361.out 1; have hcz126_0 : w124.cell? ⟨gb360, 0, none⟩ = some (.int .i64 t363) := (blk_cell BK360.out 0).trans rfl; have hcz126_1 : w124.cell? ⟨gb360, 1, none⟩ = some (.int .i64 t364) := (blk_cell BK360.out 1).trans rfl; have hfz126_0 := blk_frozen BK360.out 0; have hfz126_1 := blk_frozen BK360.out 1; have hcz127_0 : w124.cell? ⟨gb362, 0, none⟩ = some (.int .i64 0) := (blk_cell BK362.out 0).trans rfl; have hcz127_1 : w124.cell? ⟨gb362, 1, none⟩ = some (.int .i64 0) := (blk_cell BK362.out 1).trans rfl; have hfz127_0 := blk_frozen BK362.out 0; have hfz127_1 := blk_frozen BK362.out 1))
          refine bodyPost_ret (results_cell_row rfl _ _ gb362 23 #[.int .i64 t363, .int .i64 t364] (0, 0) _ rfl (bk2_ BK362.out) Tryd.underlying23 rfl (by kernel_rfl)) rfl ?_
          exact ⟨by first | rfl | (simp [errW_none, errW_some] <;> rfl) | (simp [*, errW_none, errW_some] <;> rfl), by repeat (first | (with_reducible first | exact HB.out | apply below_alloc | apply pw_below_drewN | apply below_drew1 | refine below_set ?_ GE360.out | refine below_set ?_ GE361.out | refine below_set ?_ GE362.out) | exact HB.out)⟩

end Go.Proofs.YtkailfmehmgolaaDoor.R

-- WRITTEN BY this session's program wip/ext.py, in print.py's manner
import Derived.Test.YtgeemdpflcefkaaZx0
import Derived.Test.YtgeemdpflcefkaaZx3
import Derived.Test.YtgeemdpflcefkaaZx21
import Derived.Test.YtgeemdpflcefkaaZx23
import Derived.Test.YtgeemdpflcefkaaZx24
import Derived.Test.YtgeemdpflcefkaaZx25
import Derived.Test.YtgeemdpflcefkaaZx33
import Derived.Test.YtgeemdpflcefkaaZx35
import Derived.Test.YtgeemdpflcefkaaZx36
import Derived.Test.YtgeemdpflcefkaaZx37
namespace Go.Proofs.Ytgeemdpflcefkaa.Z
open Go.RowKit Go.Proofs.YtgeemdpflcefkaaW.PrintWords Go.Proofs.YtgeemdpflcefkaaW.PrintLast Go.Proofs.YtgeemdpflcefkaaW.PrintMore
attribute [local go_sem] max2_int min2_int max_two min_two max_three min_three max_four min_four   -- for this text's walks alone
set_option linter.unusedVariables false
set_option linter.unusedSimpArgs false

/-! ### warrantorlaw09_ZoneTwo: function 6 -/
def warrantorlaw09_ZoneTwo.j0 : Nat → Bool → Int → List Int → Int → List Int → Option (Bool)
  | 0, _, _, _, _, _ => none
  | k + 1, x21, x447000, x447001, x448000, x448001 => if x21 = true then ((warrantorlaw09_lives.f k).bind fun t450 => (some t450)) else ((warrantorref09_Two.f k x447000 x447001 x448000 x448001).bind fun t451 => ((zone_Leq.f k x447000 x447001 x448000 x448001).bind fun bt452 => ((zone_Meet.f k x447000 x447001 x448000 x448001).bind fun bt454 => ((zone_Join.f k x447000 x447001 x448000 x448001).bind fun bt460 => ((zone_Widen.f k x447000 x447001 x448000 x448001).bind fun bt466 => ((warrantorlaw09_lives.f k).bind fun t472 => (if t472 = true then (if bt452.2 = t451 then (if bt454.2.2 = t451 then (if bt460.2.2 = t451 then (if bt466.2.2 = t451 then (if t451 = 0 then ((warrantorref09_Leq.f k x447000 x447001 x448000 x448001).bind fun t476 => (if (bt452.1 == t476) = true then ((warrantorref09_Meet.f k x447000 x447001 x448000 x448001).bind fun bt477 => ((warrantorref08_Same.f k bt454.1 bt454.2.1 bt477.1 bt477.2).bind fun t481 => (if t481 = true then ((warrantorref09_Join.f k x447000 x447001 x448000 x448001).bind fun bt482 => ((warrantorref08_Same.f k bt460.1 bt460.2.1 bt482.1 bt482.2).bind fun t486 => (if t486 = true then ((warrantorref09_Widen.f k x447000 x447001 x448000 x448001).bind fun bt487 => ((warrantorref08_Same.f k bt466.1 bt466.2.1 bt487.1 bt487.2).bind fun t491 => (some t491))) else (none)))) else (none)))) else (none))) else (if bt452.1 = true then (none) else ((warrantorref08_Same.f k bt454.1 bt454.2.1 0 ([] : List Int)).bind fun t473 => (if t473 = true then ((warrantorref08_Same.f k bt460.1 bt460.2.1 0 ([] : List Int)).bind fun t474 => (if t474 = true then ((warrantorref08_Same.f k bt466.1 bt466.2.1 0 ([] : List Int)).bind fun t475 => (some t475)) else (none))) else (none))))) else (none)) else (none)) else (none)) else (none)) else (none))))))))
def warrantorlaw09_ZoneTwo.f (k : Nat) (a0_0 : Int) (l0_1 : List Int) (a1_0 : Int) (l1_1 : List Int) : Option (Bool) := (warrantorref08_Large.f l0_1).bind fun t448 => (if t448 = true then (warrantorlaw09_ZoneTwo.j0 k true a0_0 l0_1 a1_0 l1_1) else ((warrantorref08_Large.f l1_1).bind fun t449 => (warrantorlaw09_ZoneTwo.j0 k t449 a0_0 l0_1 a1_0 l1_1)))
theorem warrantorlaw09_ZoneTwo.mono_l : ∀ k, (∀ y0 y1 y2 y3 y4, LeO (warrantorlaw09_ZoneTwo.j0 k y0 y1 y2 y3 y4) (warrantorlaw09_ZoneTwo.j0 (k + 1) y0 y1 y2 y3 y4))
  | 0 => fun _ _ _ _ _ r h => by simp [warrantorlaw09_ZoneTwo.j0] at h
  | k + 1 => by
    have ih0 := warrantorlaw09_ZoneTwo.mono_l k
    · intro y0 y1 y2 y3 y4
      unfold warrantorlaw09_ZoneTwo.j0
      repeat' first
      | (with_reducible exact ih0 _ _ _ _ _)
      | (with_reducible exact warrantorlaw09_lives.mono _)
      | (with_reducible exact warrantorref08_Same.mono _ _ _ _ _)
      | (with_reducible exact warrantorref09_Join.mono _ _ _ _ _)
      | (with_reducible exact warrantorref09_Leq.mono _ _ _ _ _)
      | (with_reducible exact warrantorref09_Meet.mono _ _ _ _ _)
      | (with_reducible exact warrantorref09_Two.mono _ _ _ _ _)
      | (with_reducible exact warrantorref09_Widen.mono _ _ _ _ _)
      | (with_reducible exact zone_Join.mono _ _ _ _ _)
      | (with_reducible exact zone_Leq.mono _ _ _ _ _)
      | (with_reducible exact zone_Meet.mono _ _ _ _ _)
      | (with_reducible exact zone_Widen.mono _ _ _ _ _)
      | (with_reducible exact LeO.refl _)
      | (with_reducible exact LeO.none _)
      | (with_reducible refine LeO.ite ?_ ?_)
      | (with_reducible refine LeO.bind ?_ (fun _ => ?_))
      | exact ih0 _ _ _ _ _
      | exact warrantorlaw09_lives.mono _
      | exact warrantorref08_Same.mono _ _ _ _ _
      | exact warrantorref09_Join.mono _ _ _ _ _
      | exact warrantorref09_Leq.mono _ _ _ _ _
      | exact warrantorref09_Meet.mono _ _ _ _ _
      | exact warrantorref09_Two.mono _ _ _ _ _
      | exact warrantorref09_Widen.mono _ _ _ _ _
      | exact zone_Join.mono _ _ _ _ _
      | exact zone_Leq.mono _ _ _ _ _
      | exact zone_Meet.mono _ _ _ _ _
      | exact zone_Widen.mono _ _ _ _ _
      | exact LeO.none _
      | refine LeO.ite ?_ ?_
      | refine LeO.bind ?_ (fun _ => ?_)
theorem warrantorlaw09_ZoneTwo.mono : ∀ a0 a1 a2 a3 k, LeO (warrantorlaw09_ZoneTwo.f k a0 a1 a2 a3) (warrantorlaw09_ZoneTwo.f (k + 1) a0 a1 a2 a3) := by
  intro a0 a1 a2 a3 k
  have ih0 := warrantorlaw09_ZoneTwo.mono_l k
  unfold warrantorlaw09_ZoneTwo.f
  repeat' first
      | (with_reducible exact ih0 _ _ _ _ _)
      | (with_reducible exact warrantorlaw09_lives.mono _)
      | (with_reducible exact warrantorref08_Same.mono _ _ _ _ _)
      | (with_reducible exact warrantorref09_Join.mono _ _ _ _ _)
      | (with_reducible exact warrantorref09_Leq.mono _ _ _ _ _)
      | (with_reducible exact warrantorref09_Meet.mono _ _ _ _ _)
      | (with_reducible exact warrantorref09_Two.mono _ _ _ _ _)
      | (with_reducible exact warrantorref09_Widen.mono _ _ _ _ _)
      | (with_reducible exact zone_Join.mono _ _ _ _ _)
      | (with_reducible exact zone_Leq.mono _ _ _ _ _)
      | (with_reducible exact zone_Meet.mono _ _ _ _ _)
      | (with_reducible exact zone_Widen.mono _ _ _ _ _)
      | (with_reducible exact LeO.refl _)
      | (with_reducible exact LeO.none _)
      | (with_reducible refine LeO.ite ?_ ?_)
      | (with_reducible refine LeO.bind ?_ (fun _ => ?_))
      | exact ih0 _ _ _ _ _
      | exact warrantorlaw09_lives.mono _
      | exact warrantorref08_Same.mono _ _ _ _ _
      | exact warrantorref09_Join.mono _ _ _ _ _
      | exact warrantorref09_Leq.mono _ _ _ _ _
      | exact warrantorref09_Meet.mono _ _ _ _ _
      | exact warrantorref09_Two.mono _ _ _ _ _
      | exact warrantorref09_Widen.mono _ _ _ _ _
      | exact zone_Join.mono _ _ _ _ _
      | exact zone_Leq.mono _ _ _ _ _
      | exact zone_Meet.mono _ _ _ _ _
      | exact zone_Widen.mono _ _ _ _ _
      | exact LeO.none _
      | refine LeO.ite ?_ ?_
      | refine LeO.bind ?_ (fun _ => ?_)
def warrantorlaw09_ZoneTwo.T12 : Bool × List (List Nat × List Nat) := (true, [([], []), ([], []), ([], []), ([1, 2], [1, 2]), ([0, 3], [0, 3]), ([4, 3], [4]), ([5], [5]), ([5], [5]), ([5], [5]), ([7, 8, 5, 5], [5, 7, 8]), ([6, 9, 9, 5], [5, 6, 9]), ([5, 10], [5, 10]), ([11, 10], [11]), ([12], [12]), ([12], [12]), ([12], [12]), ([14, 15, 12, 12], [12, 14, 15]), ([13, 16, 16, 12], [12, 13, 16]), ([12, 17], [12, 17]), ([18, 17], [18]), ([19], [19]), ([19], [19]), ([19], [19]), ([21, 22, 19, 19], [19, 21, 22]), ([20, 23, 23, 19], [19, 20, 23]), ([19, 24], [19, 24]), ([25, 24, 0, 1, 2, 3, 4, 5, 6, 7, 8, 9, 10, 11, 12, 13, 14, 15, 16, 17, 18, 19, 20, 21, 22, 23, 24, 25], [25])])
def warrantorlaw09_ZoneTwo.B12 : List Nat := [0, 0, 0, 6, 15, 31, 63, 63, 63, 447, 1023, 2047, 4095, 8191, 8191, 8191, 57343, 131071, 262143, 524287, 1048575, 1048575, 1048575, 7340031, 16777215, 33554431, 67108863]
theorem warrantorlaw09_ZoneTwo.tab12 : rtab .any (opsOf Try.f6 12) = warrantorlaw09_ZoneTwo.T12 := by kernel_rfl
theorem warrantorlaw09_ZoneTwo.bits12 : waitsOk warrantorlaw09_ZoneTwo.T12.2 warrantorlaw09_ZoneTwo.B12 = true := by kernel_rfl
set_option maxHeartbeats 8000000 in
set_option maxRecDepth 100000 in
theorem warrantorlaw09_ZoneTwo.calls (k : Nat) (a0_0 : Int) (A0_1 : Option Addr) (c0_1 : Nat) (l0_1 : List Int) (a1_0 : Int) (A1_1 : Option Addr) (c1_1 : Nat) (l1_1 : List Int) (r : Bool) (w : World) (hr0_1 : Kd.C (Kd.int .i64) w A0_1 l0_1.length l0_1) (hc0_1 : l0_1.length ≤ c0_1) (hr1_1 : Kd.C (Kd.int .i64) w A1_1 l1_1.length l1_1) (hc1_1 : l1_1.length ≤ c1_1) (h : warrantorlaw09_ZoneTwo.f k a0_0 l0_1 a1_0 l1_1 = some r) :
    Calls Try.prog 6 #[.agg #[.int .i64 a0_0, .slice A0_1 l0_1.length c0_1], .agg #[.int .i64 a1_0, .slice A1_1 l1_1.length c1_1]] w fun e w' => e = .returned (.bool r) ∧ Below w.heap.size w w' := by
  have hu24 := Try.underlying24
  have HR0_1 := Aside0.mk hr0_1
  have HC0_1 := Aside0.mk hc0_1
  clear hr0_1 hc0_1
  have HR1_1 := Aside0.mk hr1_1
  have HC1_1 := Aside0.mk hc1_1
  clear hr1_1 hc1_1
  have HB := Aside0.mk (Below.refl w.heap.size w)
  have H : ((warrantorref08_Large.f l0_1).bind fun t448 => (if t448 = true then (warrantorlaw09_ZoneTwo.j0 k true a0_0 l0_1 a1_0 l1_1) else ((warrantorref08_Large.f l1_1).bind fun t449 => (warrantorlaw09_ZoneTwo.j0 k t449 a0_0 l0_1 a1_0 l1_1)))) = some r := h
  clear h
  have HC3 := Aside0.mk H
  clear H
  go_enter Try.func6, Try.ntmps6
  go_upto_region 1 with (first | ((with_reducible refine gate_dst (N := 2) rfl ?_); refine bx_ (N := 2) (cs := #[.int .i64 a0_0, .slice A0_1 l0_1.length c0_1]) (t := 24) ?_; intro gb446 hg w4 hbox hb; have n_ := a_ (bs_ HB hb) (a_ (Aside0.mk hbox) (a_ (gs_ HB hg) (gs_ HB hg))); clear HB; obtain ⟨HB, BK446, GW446, GE446⟩ := n_; clear hb hbox hg) | ((with_reducible refine gate_dst (N := 3) rfl ?_); refine bx_ (N := 3) (cs := #[.int .i64 a1_0, .slice A1_1 l1_1.length c1_1]) (t := 24) ?_; intro gb447 hg w5 hbox hb; have n_ := a_ (bb_ BK446 hb) (a_ (bs_ HB hb) (a_ (Aside0.mk hbox) (a_ (gs_ HB hg) (a_ (gs_ HB hg) (a_ (nl_ BK446 hg) (ng_ BK446 hg)))))); clear BK446 HB; obtain ⟨BK446, HB, BK447, GW447, GE447, NB446_447, NB447_446⟩ := n_; clear hb hbox hg))
  (try simp only [Act.put, List.setIfInBounds_toArray, List.set_cons_zero, List.set_cons_succ])
  go_cut [21] (fun v21 wc => ∃ (kq : Nat) (x21_2 : Bool), v21 = .bool x21_2 ∧ Aside0 (warrantorlaw09_ZoneTwo.j0 kq x21_2 a0_0 l0_1 a1_0 l1_1 = some r) ∧ Aside0 (kq ≤ k) ∧ Aside0 (wc.heap[gb446]? = some (.cells #[.int .i64 a0_0, (.slice A0_1 l0_1.length c0_1)] 24 (0, 0))) ∧ Aside0 (wc.heap[gb447]? = some (.cells #[.int .i64 a1_0, (.slice A1_1 l1_1.length c1_1)] 24 (0, 0))) ∧ Aside0 (Below w.heap.size w wc))
  case first =>
    have H := HC3.out
    clear HC3
    replace H := bd_ H
    obtain ⟨t448, A6, H⟩ := H
    (try dsimp only at H)
    by_cases c7 : t448 = true
    · subst c7
      replace H := ps1_ H
      have H' := Aside0.mk H
      clear H
      have hnb8 := NB446_447.out
      have hnc8 := NB447_446.out
      obtain ⟨hcz9_0, hcz9_1, hfz9_0, hfz9_1⟩ := cz2_ BK446
      go_wp2_with (first | ((with_reducible refine gate_callee (f := 12) rfl ?_); refine goesL_ (some 16) rfl rfl Try.func12 (by kernel_rfl) rfl #[.slice A0_1 l0_1.length c0_1] rfl MP_ ?_; (with_reducible refine (warrantorref08_Large.calls _ _ l0_1 true _ ?side1 ?side2 A6.out).mono ?_); (case side1 => exact sd_ (Kd.C_below HR0_1.out HB.out)); (case side2 => exact HC0_1.out); rintro e w' ⟨rfl, ⟨nd, rfl⟩⟩; refine ⟨_, rfl, ?_⟩))
      go_meet
      case rel => exact ⟨_, (true), (by first | rfl | (simp; done) | (simp [*]; done)), H', ⟨by first | omega | exact Nat.le_refl _⟩, ⟨by (with_reducible repeat (first | refine blk_drewN ?_ _ | refine blk_drew ?_ | refine blk_alloc ?_ _)); exact BK446.out⟩, ⟨by (with_reducible repeat (first | refine blk_drewN ?_ _ | refine blk_drew ?_ | refine blk_alloc ?_ _)); exact BK447.out⟩, ⟨HB_⟩⟩
    replace c7 := Bool.eq_false_iff.mpr c7
    subst c7
    replace H := ng1_ H
    replace H := bd_ H
    obtain ⟨t449, A10, H⟩ := H
    (try dsimp only at H)
    have H' := Aside0.mk H
    clear H
    have hnb11 := NB446_447.out
    have hnc11 := NB447_446.out
    obtain ⟨hcz12_0, hcz12_1, hfz12_0, hfz12_1⟩ := cz2_ BK446
    go_wp2_with (first | ((with_reducible refine gate_callee (f := 12) rfl ?_); refine goesL_ (some 16) rfl rfl Try.func12 (by kernel_rfl) rfl #[.slice A0_1 l0_1.length c0_1] rfl MP_ ?_; (with_reducible refine (warrantorref08_Large.calls _ _ l0_1 false _ ?side1 ?side2 A6.out).mono ?_); (case side1 => exact sd_ (Kd.C_below HR0_1.out HB.out)); (case side2 => exact HC0_1.out); rintro e w' ⟨rfl, ⟨nd, rfl⟩⟩; refine ⟨_, rfl, ?_⟩; obtain ⟨hcz13_0, hcz13_1, hfz13_0, hfz13_1⟩ := cz2_ BK447; (try clear A6)) | (go_at_call 12; (with_reducible refine (warrantorref08_Large.calls _ _ l1_1 t449 _ ?side1 ?side2 A10.out).mono ?_); (case side1 => repeat (first | exact (Kd.C_below HR1_1.out HB_) | (with_reducible refine Kd.C_alloc ?_ _) | (with_reducible refine Kd.C_drewN ?_ _) | (with_reducible refine Kd.C_drew ?_))); (case side2 => exact HC1_1.out); rintro e w' ⟨rfl, ⟨nd, rfl⟩⟩))
    go_meet
    case rel => exact ⟨_, (t449), (by first | rfl | (simp; done) | (simp [*]; done)), H', ⟨by first | omega | exact Nat.le_refl _⟩, ⟨by (with_reducible repeat (first | refine blk_drewN ?_ _ | refine blk_drew ?_ | refine blk_alloc ?_ _)); exact BK446.out⟩, ⟨by (with_reducible repeat (first | refine blk_drewN ?_ _ | refine blk_drew ?_ | refine blk_alloc ?_ _)); exact BK447.out⟩, ⟨HB_⟩⟩
  case rest =>
    clear HC3
    try clear c1
    try clear p2
    try clear c6
    try clear c7
    try clear c8
    try clear c11
    try clear c12
    try clear hcz12_0
    try clear hcz12_1
    try clear hcz13_0
    try clear hcz13_1
    try clear hcz9_0
    try clear hcz9_1
    try clear hfz12_0
    try clear hfz12_1
    try clear hfz13_0
    try clear hfz13_1
    try clear hfz9_0
    try clear hfz9_1
    obtain ⟨kq, x21_2, rfl, HA, HJ2, BK446, BK447, HB⟩ := hcut
    cases kq with
    | zero => exact absurd HA.out (by simp [warrantorlaw09_ZoneTwo.j0])
    | succ kj2 =>
      have H := HA.out
      clear HA
      simp only [warrantorlaw09_ZoneTwo.j0] at H
      by_cases c14 : x21_2 = true
      · subst c14
        replace H := ps1_ H
        replace H := bd_ H
        obtain ⟨t450, A15, H⟩ := H
        (try dsimp only at H)
        obtain rfl := Option.some.inj H
        go_wp2_with (first | ((with_reducible refine gate_callee (f := 22) rfl ?_); refine goesL_ (some 22) rfl rfl Try.func22 (by kernel_rfl) rfl #[] rfl MP_ ?_; (with_reducible refine (warrantorlaw09_lives.calls kj2  t450 _ A15.out).mono ?_); rintro e w16 ⟨rfl, hb⟩; refine ⟨_, rfl, ?_⟩; have n_ := a_ (bb_ BK446 hb) (a_ (bb_ BK447 hb) (bs_ HB hb)); clear BK446 BK447 HB; obtain ⟨BK446, BK447, HB⟩ := n_; (try clear hb); (try clear hb2); (try clear hk); (try clear hi)))
        go_ret
        exact ⟨by first | rfl | (simp [errW_none, errW_some] <;> rfl) | (simp [*, errW_none, errW_some] <;> rfl), HB_⟩
      replace c14 := Bool.eq_false_iff.mpr c14
      subst c14
      replace H := ng1_ H
      replace H := bd_ H
      obtain ⟨t451, A17, H⟩ := H
      (try dsimp only at H)
      replace H := bd_ H
      obtain ⟨⟨t452, t453⟩, A18, H⟩ := H
      (try dsimp only at H)
      replace H := bd_ H
      obtain ⟨⟨t454, t455, t458⟩, A19, H⟩ := H
      (try dsimp only at H)
      replace H := bd_ H
      obtain ⟨⟨t460, t461, t464⟩, A20, H⟩ := H
      (try dsimp only at H)
      replace H := bd_ H
      obtain ⟨⟨t466, t467, t470⟩, A21, H⟩ := H
      (try dsimp only at H)
      replace H := bd_ H
      obtain ⟨t472, A22, H⟩ := H
      (try dsimp only at H)
      replace H := yes_ H
      obtain ⟨c23, H⟩ := H
      subst c23
      replace H := yes_ H
      obtain ⟨c24, H⟩ := H
      have c24b0 : (t453 == t451) = true := beq_iff_eq.mpr c24
      have c24b1 : (t453 != t451) = false := bne_eq_false_iff_eq.mpr c24
      clear c24
      replace H := yes_ H
      obtain ⟨c25, H⟩ := H
      have c25b0 : (t458 == t451) = true := beq_iff_eq.mpr c25
      have c25b1 : (t458 != t451) = false := bne_eq_false_iff_eq.mpr c25
      clear c25
      replace H := yes_ H
      obtain ⟨c26, H⟩ := H
      have c26b0 : (t464 == t451) = true := beq_iff_eq.mpr c26
      have c26b1 : (t464 != t451) = false := bne_eq_false_iff_eq.mpr c26
      clear c26
      replace H := yes_ H
      obtain ⟨c27, H⟩ := H
      have c27b0 : (t470 == t451) = true := beq_iff_eq.mpr c27
      have c27b1 : (t470 != t451) = false := bne_eq_false_iff_eq.mpr c27
      clear c27
      by_cases c28 : t451 = 0
      rotate_left
      · rw [if_neg c28] at H
        have c28b0 : (t451 == 0) = false := beq_eq_false_iff_ne.mpr c28
        have c28b1 : (t451 != 0) = true := bne_iff_ne.mpr c28
        by_cases c85 : t452 = true
        · subst c85
          replace H := ps1_ H
          exact absurd H (by simp)
        replace c85 := Bool.eq_false_iff.mpr c85
        subst c85
        replace H := ng1_ H
        replace H := bd_ H
        obtain ⟨t473, A86, H⟩ := H
        (try dsimp only at H)
        replace H := yes_ H
        obtain ⟨c87, H⟩ := H
        subst c87
        replace H := bd_ H
        obtain ⟨t474, A88, H⟩ := H
        (try dsimp only at H)
        replace H := yes_ H
        obtain ⟨c89, H⟩ := H
        subst c89
        replace H := bd_ H
        obtain ⟨t475, A90, H⟩ := H
        (try dsimp only at H)
        obtain rfl := Option.some.inj H
        have hnb91 := NB446_447.out
        have hnc91 := NB447_446.out
        obtain ⟨hcz92_0, hcz92_1, hfz92_0, hfz92_1⟩ := cz2_ BK446
        obtain ⟨hcz93_0, hcz93_1, hfz93_0, hfz93_1⟩ := cz2_ BK447
        go_wp2_with (first | ((with_reducible refine gate_callee (f := 34) rfl ?_); refine goesL_ (some 25) rfl rfl Try.func34 (by kernel_rfl) rfl #[.agg #[.int .i64 a0_0, .slice A0_1 l0_1.length c0_1], .agg #[.int .i64 a1_0, .slice A1_1 l1_1.length c1_1]] rfl MP_ ?_; (with_reducible refine (warrantorref09_Two.calls kj2 a0_0 _ _ l0_1 a1_0 _ _ l1_1 t451 _ ?side1 ?side2 ?side3 ?side4 A17.out).mono ?_); (case side1 => exact sd_ (Kd.C_below HR0_1.out HB.out)); (case side2 => exact HC0_1.out); (case side3 => exact sd_ (Kd.C_below HR1_1.out HB.out)); (case side4 => exact HC1_1.out); rintro e w94 ⟨rfl, hb⟩; refine ⟨_, rfl, ?_⟩; have n_ := a_ (bb_ BK446 hb) (a_ (bb_ BK447 hb) (bs_ HB hb)); clear BK446 BK447 HB; obtain ⟨BK446, BK447, HB⟩ := n_; (try clear hb); (try clear hb2); (try clear hk); (try clear hi); obtain ⟨hcz95_0, hcz95_1, hfz95_0, hfz95_1⟩ := cz2_ BK446; obtain ⟨hcz96_0, hcz96_1, hfz96_0, hfz96_1⟩ := cz2_ BK447) | ((with_reducible refine gate_callee (f := 36) rfl ?_); refine goesL_ (some 29) rfl rfl Try.func36 (by kernel_rfl) rfl #[.agg #[.int .i64 a0_0, .slice A0_1 l0_1.length c0_1], .agg #[.int .i64 a1_0, .slice A1_1 l1_1.length c1_1]] rfl MP_ ?_; (with_reducible refine (zone_Leq.calls kj2 a0_0 _ _ l0_1 a1_0 _ _ l1_1 false t453 _ ?side1 ?side2 ?side3 ?side4 A18.out).mono ?_); (case side1 => exact sd_ (Kd.C_below HR0_1.out HB.out)); (case side2 => exact HC0_1.out); (case side3 => exact sd_ (Kd.C_below HR1_1.out HB.out)); (case side4 => exact HC1_1.out); rintro e w97 ⟨rfl, hb⟩; refine ⟨_, rfl, ?_⟩; have n_ := a_ (bb_ BK446 hb) (a_ (bb_ BK447 hb) (bs_ HB hb)); clear BK446 BK447 HB; obtain ⟨BK446, BK447, HB⟩ := n_; (try clear hb); (try clear hb2); (try clear hk); (try clear hi); obtain ⟨hcz98_0, hcz98_1, hfz98_0, hfz98_1⟩ := cz2_ BK446; obtain ⟨hcz99_0, hcz99_1, hfz99_0, hfz99_1⟩ := cz2_ BK447) | ((with_reducible refine gate_callee (f := 37) rfl ?_); refine goesL_ (some 35) rfl rfl Try.func37 (by kernel_rfl) rfl #[.agg #[.int .i64 a0_0, .slice A0_1 l0_1.length c0_1], .agg #[.int .i64 a1_0, .slice A1_1 l1_1.length c1_1]] rfl MP_ ?_; (with_reducible refine (zone_Meet.calls kj2 a0_0 _ _ l0_1 a1_0 _ _ l1_1 t454 t455 t458 _ ?side1 ?side2 ?side3 ?side4 A19.out).mono ?_); (case side1 => exact sd_ (Kd.C_below HR0_1.out HB.out)); (case side2 => exact HC0_1.out); (case side3 => exact sd_ (Kd.C_below HR1_1.out HB.out)); (case side4 => exact HC1_1.out); rintro e w100 ⟨v456, rfl, ho0, hb⟩; refine ⟨_, rfl, ?_⟩; have n_ := a_ (Aside0.mk (Kd.R_lower ho0 (below_size HB_))) (a_ (bb_ BK446 hb) (a_ (bb_ BK447 hb) (bs_ HB hb))); clear BK446 BK447 HB; obtain ⟨HO457, BK446, BK447, HB⟩ := n_; (try clear hb); (try clear hb2); (try clear hk); (try clear hi); (try clear ho0)) | ((with_reducible refine gate_dst (N := 8) rfl ?_); refine bx_ (N := 8) (cs := #[.int .i64 0, .slice none 0 0]) (t := 24) ?_; intro gb459 hg w101 hbox hb; have n_ := a_ (rb_ HO457 hb) (a_ (bb_ BK446 hb) (a_ (bb_ BK447 hb) (a_ (bs_ HB hb) (a_ (Aside0.mk hbox) (a_ (gs_ HB hg) (a_ (gs_ HB hg) (a_ (nl_ BK446 hg) (a_ (ng_ BK446 hg) (a_ (nl_ BK447 hg) (ng_ BK447 hg)))))))))); clear HO457 BK446 BK447 HB; obtain ⟨HO457, BK446, BK447, HB, BK459, GW459, GE459, NB446_459, NB459_446, NB447_459, NB459_447⟩ := n_; clear hb hbox hg; have hnb102 := NB459_446.out; have hnc102 := NB446_459.out; have hnb103 := NB459_447.out; have hnc103 := NB447_459.out; obtain ⟨hcz104_0, hcz104_1, hfz104_0, hfz104_1⟩ := cz2_ BK459; obtain ⟨Ao105, co105, eo105⟩ := Kd.R_slice HO457.out; subst eo105; obtain ⟨hcz106_0, hcz106_1, hfz106_0, hfz106_1⟩ := cz2_ BK446; obtain ⟨hcz107_0, hcz107_1, hfz107_0, hfz107_1⟩ := cz2_ BK447) | ((with_reducible refine gate_callee (f := 35) rfl ?_); refine goesL_ (some 41) rfl rfl Try.func35 (by kernel_rfl) rfl #[.agg #[.int .i64 a0_0, .slice A0_1 l0_1.length c0_1], .agg #[.int .i64 a1_0, .slice A1_1 l1_1.length c1_1]] rfl MP_ ?_; (with_reducible refine (zone_Join.calls kj2 a0_0 _ _ l0_1 a1_0 _ _ l1_1 t460 t461 t464 _ ?side1 ?side2 ?side3 ?side4 A20.out).mono ?_); (case side1 => exact Kd.C_below HR0_1.out HB_); (case side2 => exact HC0_1.out); (case side3 => exact Kd.C_below HR1_1.out HB_); (case side4 => exact HC1_1.out); rintro e w108 ⟨v462, rfl, ho0, hb⟩; refine ⟨_, rfl, ?_⟩; have n_ := a_ (Aside0.mk (Kd.R_elder' (rd_ (rf2_ HO457 BK459 (.int .i64 t454) (.slice Ao105 t455.length co105))) (Kd.R_base ho0) hb)) (a_ (Aside0.mk (Kd.R_lower (Kd.R_new' ho0 (Kd.R_lt (rd_ (rf2_ HO457 BK459 (.int .i64 t454) (.slice Ao105 t455.length co105))))) (below_size HB_))) (a_ (bc_ #[.int .i64 a0_0, .slice A0_1 l0_1.length c0_1] 24 BK446 hb) (a_ (bc_ #[.int .i64 a1_0, .slice A1_1 l1_1.length c1_1] 24 BK447 hb) (a_ (bc_ #[.int .i64 t454, .slice Ao105 t455.length co105] 24 BK459 hb) (bs_ HB hb))))); clear HO457 BK446 BK447 BK459 HB; obtain ⟨HO457, HO463, BK446, BK447, BK459, HB⟩ := n_; (try clear hb); (try clear hb2); (try clear hk); (try clear hi); (try clear ho0)) | ((with_reducible refine gate_dst (N := 10) rfl ?_); refine bx_ (N := 10) (cs := #[.int .i64 0, .slice none 0 0]) (t := 24) ?_; intro gb465 hg w109 hbox hb; have n_ := a_ (rb_ HO457 hb) (a_ (rb_ HO463 hb) (a_ (bb_ BK446 hb) (a_ (bb_ BK447 hb) (a_ (bb_ BK459 hb) (a_ (bs_ HB hb) (a_ (Aside0.mk hbox) (a_ (gs_ HB hg) (a_ (gs_ HB hg) (a_ (nl_ BK446 hg) (a_ (ng_ BK446 hg) (a_ (nl_ BK447 hg) (a_ (ng_ BK447 hg) (a_ (nl_ BK459 hg) (ng_ BK459 hg)))))))))))))); clear HO457 HO463 BK446 BK447 BK459 HB; obtain ⟨HO457, HO463, BK446, BK447, BK459, HB, BK465, GW465, GE465, NB446_465, NB465_446, NB447_465, NB465_447, NB459_465, NB465_459⟩ := n_; clear hb hbox hg; have hnb110 := NB465_446.out; have hnc110 := NB446_465.out; have hnb111 := NB465_447.out; have hnc111 := NB447_465.out; have hnb112 := NB465_459.out; have hnc112 := NB459_465.out; obtain ⟨hcz113_0, hcz113_1, hfz113_0, hfz113_1⟩ := cz2_ BK465; obtain ⟨Ao114, co114, eo114⟩ := Kd.R_slice HO463.out; subst eo114; obtain ⟨hcz115_0, hcz115_1, hfz115_0, hfz115_1⟩ := cz2_ BK446; obtain ⟨hcz116_0, hcz116_1, hfz116_0, hfz116_1⟩ := cz2_ BK447) | ((with_reducible refine gate_callee (f := 38) rfl ?_); refine goesL_ (some 47) rfl rfl Try.func38 (by kernel_rfl) rfl #[.agg #[.int .i64 a0_0, .slice A0_1 l0_1.length c0_1], .agg #[.int .i64 a1_0, .slice A1_1 l1_1.length c1_1]] rfl MP_ ?_; (with_reducible refine (zone_Widen.calls kj2 a0_0 _ _ l0_1 a1_0 _ _ l1_1 t466 t467 t470 _ ?side1 ?side2 ?side3 ?side4 A21.out).mono ?_); (case side1 => exact Kd.C_below HR0_1.out HB_); (case side2 => exact HC0_1.out); (case side3 => exact Kd.C_below HR1_1.out HB_); (case side4 => exact HC1_1.out); rintro e w117 ⟨v468, rfl, ho0, hb⟩; refine ⟨_, rfl, ?_⟩; have n_ := a_ (Aside0.mk (Kd.R_elder' (rd_ (rf2_ HO457 BK465 (.int .i64 t460) (.slice Ao114 t461.length co114))) (Kd.R_base ho0) hb)) (a_ (Aside0.mk (Kd.R_elder' (rd_ (rf2_ HO463 BK465 (.int .i64 t460) (.slice Ao114 t461.length co114))) (Kd.R_base ho0) hb)) (a_ (Aside0.mk (Kd.R_lower (Kd.R_new' (Kd.R_new' ho0 (Kd.R_lt (rd_ (rf2_ HO457 BK465 (.int .i64 t460) (.slice Ao114 t461.length co114))))) (Kd.R_lt (rd_ (rf2_ HO463 BK465 (.int .i64 t460) (.slice Ao114 t461.length co114))))) (below_size HB_))) (a_ (bc_ #[.int .i64 a0_0, .slice A0_1 l0_1.length c0_1] 24 BK446 hb) (a_ (bc_ #[.int .i64 a1_0, .slice A1_1 l1_1.length c1_1] 24 BK447 hb) (a_ (bc_ #[.int .i64 t454, .slice Ao105 t455.length co105] 24 BK459 hb) (a_ (bc_ #[.int .i64 t460, .slice Ao114 t461.length co114] 24 BK465 hb) (bs_ HB hb))))))); clear HO457 HO463 BK446 BK447 BK459 BK465 HB; obtain ⟨HO457, HO463, HO469, BK446, BK447, BK459, BK465, HB⟩ := n_; (try clear hb); (try clear hb2); (try clear hk); (try clear hi); (try clear ho0)) | ((with_reducible refine gate_dst (N := 12) rfl ?_); refine bx_ (N := 12) (cs := #[.int .i64 0, .slice none 0 0]) (t := 24) ?_; intro gb471 hg w118 hbox hb; have n_ := a_ (rb_ HO457 hb) (a_ (rb_ HO463 hb) (a_ (rb_ HO469 hb) (a_ (bb_ BK446 hb) (a_ (bb_ BK447 hb) (a_ (bb_ BK459 hb) (a_ (bb_ BK465 hb) (a_ (bs_ HB hb) (a_ (Aside0.mk hbox) (a_ (gs_ HB hg) (a_ (gs_ HB hg) (a_ (nl_ BK446 hg) (a_ (ng_ BK446 hg) (a_ (nl_ BK447 hg) (a_ (ng_ BK447 hg) (a_ (nl_ BK459 hg) (a_ (ng_ BK459 hg) (a_ (nl_ BK465 hg) (ng_ BK465 hg)))))))))))))))))); clear HO457 HO463 HO469 BK446 BK447 BK459 BK465 HB; obtain ⟨HO457, HO463, HO469, BK446, BK447, BK459, BK465, HB, BK471, GW471, GE471, NB446_471, NB471_446, NB447_471, NB471_447, NB459_471, NB471_459, NB465_471, NB471_465⟩ := n_; clear hb hbox hg; have hnb119 := NB471_446.out; have hnc119 := NB446_471.out; have hnb120 := NB471_447.out; have hnc120 := NB447_471.out; have hnb121 := NB471_459.out; have hnc121 := NB459_471.out; have hnb122 := NB471_465.out; have hnc122 := NB465_471.out; obtain ⟨hcz123_0, hcz123_1, hfz123_0, hfz123_1⟩ := cz2_ BK471; obtain ⟨Ao124, co124, eo124⟩ := Kd.R_slice HO469.out; subst eo124) | ((with_reducible refine gate_callee (f := 22) rfl ?_); refine goesL_ (some 50) rfl rfl Try.func22 (by kernel_rfl) rfl #[] rfl MP_ ?_; (with_reducible refine (warrantorlaw09_lives.calls kj2  true _ A22.out).mono ?_); rintro e w125 ⟨rfl, hb⟩; refine ⟨_, rfl, ?_⟩; have n_ := a_ (Aside0.mk (Kd.R_below (rd_ (rf2_ HO457 BK471 (.int .i64 t466) (.slice Ao124 t467.length co124))) hb)) (a_ (Aside0.mk (Kd.R_below (rd_ (rf2_ HO463 BK471 (.int .i64 t466) (.slice Ao124 t467.length co124))) hb)) (a_ (Aside0.mk (Kd.R_below (rd_ (rf2_ HO469 BK471 (.int .i64 t466) (.slice Ao124 t467.length co124))) hb)) (a_ (bc_ #[.int .i64 a0_0, .slice A0_1 l0_1.length c0_1] 24 BK446 hb) (a_ (bc_ #[.int .i64 a1_0, .slice A1_1 l1_1.length c1_1] 24 BK447 hb) (a_ (bc_ #[.int .i64 t454, .slice Ao105 t455.length co105] 24 BK459 hb) (a_ (bc_ #[.int .i64 t460, .slice Ao114 t461.length co114] 24 BK465 hb) (a_ (bc_ #[.int .i64 t466, .slice Ao124 t467.length co124] 24 BK471 hb) (bs_ HB hb)))))))); clear HO457 HO463 HO469 BK446 BK447 BK459 BK465 BK471 HB; obtain ⟨HO457, HO463, HO469, BK446, BK447, BK459, BK465, BK471, HB⟩ := n_; (try clear hb); (try clear hb2); (try clear hk); (try clear hi); obtain ⟨hcz126_0, hcz126_1, hfz126_0, hfz126_1⟩ := cz2_ BK459) | (go_at_call 17; (refine (warrantorref08_Same.calls kj2 t454 _ _ t455 0 _ _ ([] : List Int) true _ ?side1 ?side2 ?side3 ?side4 A86.out).mono ?_); (case side1 => repeat (first | exact (Kd.R_reads' HO457.out).2.2 | (with_reducible refine Kd.C_alloc ?_ _) | (with_reducible refine Kd.C_drewN ?_ _) | (with_reducible refine Kd.C_drew ?_))); (case side2 => exact (Kd.R_reads' HO457.out).2.1); (case side3 => exact Kd.C_nil _ _); (case side4 => exact Nat.le_refl _); rintro e w127 ⟨rfl, hb⟩; have n_ := a_ (rb_ HO457 hb) (a_ (rb_ HO463 hb) (a_ (rb_ HO469 hb) (a_ (bb_ BK446 hb) (a_ (bb_ BK447 hb) (a_ (bb_ BK459 hb) (a_ (bb_ BK465 hb) (a_ (bb_ BK471 hb) (bs_ HB hb)))))))); clear HO457 HO463 HO469 BK446 BK447 BK459 BK465 BK471 HB; obtain ⟨HO457, HO463, HO469, BK446, BK447, BK459, BK465, BK471, HB⟩ := n_; (try clear hb); (try clear hb2); (try clear hk); (try clear hi); obtain ⟨hcz128_0, hcz128_1, hfz128_0, hfz128_1⟩ := cz2_ BK465; (try clear A86)) | (go_at_call 17; (refine (warrantorref08_Same.calls kj2 t460 _ _ t461 0 _ _ ([] : List Int) true _ ?side1 ?side2 ?side3 ?side4 A88.out).mono ?_); (case side1 => repeat (first | exact (Kd.R_reads' HO463.out).2.2 | (with_reducible refine Kd.C_alloc ?_ _) | (with_reducible refine Kd.C_drewN ?_ _) | (with_reducible refine Kd.C_drew ?_))); (case side2 => exact (Kd.R_reads' HO463.out).2.1); (case side3 => exact Kd.C_nil _ _); (case side4 => exact Nat.le_refl _); rintro e w129 ⟨rfl, hb⟩; have n_ := a_ (rb_ HO457 hb) (a_ (rb_ HO463 hb) (a_ (rb_ HO469 hb) (a_ (bb_ BK446 hb) (a_ (bb_ BK447 hb) (a_ (bb_ BK459 hb) (a_ (bb_ BK465 hb) (a_ (bb_ BK471 hb) (bs_ HB hb)))))))); clear HO457 HO463 HO469 BK446 BK447 BK459 BK465 BK471 HB; obtain ⟨HO457, HO463, HO469, BK446, BK447, BK459, BK465, BK471, HB⟩ := n_; (try clear hb); (try clear hb2); (try clear hk); (try clear hi); obtain ⟨hcz130_0, hcz130_1, hfz130_0, hfz130_1⟩ := cz2_ BK471; (try clear A88)) | (go_at_call 17; (refine (warrantorref08_Same.calls kj2 t466 _ _ t467 0 _ _ ([] : List Int) t475 _ ?side1 ?side2 ?side3 ?side4 A90.out).mono ?_); (case side1 => repeat (first | exact (Kd.R_reads' HO469.out).2.2 | (with_reducible refine Kd.C_alloc ?_ _) | (with_reducible refine Kd.C_drewN ?_ _) | (with_reducible refine Kd.C_drew ?_))); (case side2 => exact (Kd.R_reads' HO469.out).2.1); (case side3 => exact Kd.C_nil _ _); (case side4 => exact Nat.le_refl _); rintro e w131 ⟨rfl, hb⟩; have n_ := a_ (rb_ HO457 hb) (a_ (rb_ HO463 hb) (a_ (rb_ HO469 hb) (a_ (bb_ BK446 hb) (a_ (bb_ BK447 hb) (a_ (bb_ BK459 hb) (a_ (bb_ BK465 hb) (a_ (bb_ BK471 hb) (bs_ HB hb)))))))); clear HO457 HO463 HO469 BK446 BK447 BK459 BK465 BK471 HB; obtain ⟨HO457, HO463, HO469, BK446, BK447, BK459, BK465, BK471, HB⟩ := n_; (try clear hb); (try clear hb2); (try clear hk); (try clear hi)))
        go_ret
        exact ⟨by first | rfl | (simp [errW_none, errW_some] <;> rfl) | (simp [*, errW_none, errW_some] <;> rfl), HB_⟩
      rw [if_pos c28] at H
      have c28b0 : (t451 == 0) = true := beq_iff_eq.mpr c28
      have c28b1 : (t451 != 0) = false := bne_eq_false_iff_eq.mpr c28
      clear c28
      replace H := bd_ H
      obtain ⟨t476, A29, H⟩ := H
      (try dsimp only at H)
      replace H := yes_ H
      obtain ⟨c30, H⟩ := H
      have c30b0 : (t452 == t476) = true := c30
      (try (have c30b1 : decide (t452 = t476) = true := by simpa using c30))
      (try (have c30b2 : (t452 == t476) = true := by simpa using c30))
      clear c30
      replace H := bd_ H
      obtain ⟨⟨t477, t478⟩, A31, H⟩ := H
      (try dsimp only at H)
      replace H := bd_ H
      obtain ⟨t481, A32, H⟩ := H
      (try dsimp only at H)
      replace H := yes_ H
      obtain ⟨c33, H⟩ := H
      subst c33
      replace H := bd_ H
      obtain ⟨⟨t482, t483⟩, A34, H⟩ := H
      (try dsimp only at H)
      replace H := bd_ H
      obtain ⟨t486, A35, H⟩ := H
      (try dsimp only at H)
      replace H := yes_ H
      obtain ⟨c36, H⟩ := H
      subst c36
      replace H := bd_ H
      obtain ⟨⟨t487, t488⟩, A37, H⟩ := H
      (try dsimp only at H)
      replace H := bd_ H
      obtain ⟨t491, A38, H⟩ := H
      (try dsimp only at H)
      obtain rfl := Option.some.inj H
      have hnb39 := NB446_447.out
      have hnc39 := NB447_446.out
      obtain ⟨hcz40_0, hcz40_1, hfz40_0, hfz40_1⟩ := cz2_ BK446
      obtain ⟨hcz41_0, hcz41_1, hfz41_0, hfz41_1⟩ := cz2_ BK447
      try go_wp2_with (first | ((with_reducible refine gate_callee (f := 34) rfl ?_); refine goesL_ (some 25) rfl rfl Try.func34 (by kernel_rfl) rfl #[.agg #[.int .i64 a0_0, .slice A0_1 l0_1.length c0_1], .agg #[.int .i64 a1_0, .slice A1_1 l1_1.length c1_1]] rfl MP_ ?_; (with_reducible refine (warrantorref09_Two.calls kj2 a0_0 _ _ l0_1 a1_0 _ _ l1_1 t451 _ ?side1 ?side2 ?side3 ?side4 A17.out).mono ?_); (case side1 => exact sd_ (Kd.C_below HR0_1.out HB.out)); (case side2 => exact HC0_1.out); (case side3 => exact sd_ (Kd.C_below HR1_1.out HB.out)); (case side4 => exact HC1_1.out); rintro e w42 ⟨rfl, hb⟩; refine ⟨_, rfl, ?_⟩; have n_ := a_ (bb_ BK446 hb) (a_ (bb_ BK447 hb) (bs_ HB hb)); clear BK446 BK447 HB; obtain ⟨BK446, BK447, HB⟩ := n_; (try clear hb); (try clear hb2); (try clear hk); (try clear hi); obtain ⟨hcz43_0, hcz43_1, hfz43_0, hfz43_1⟩ := cz2_ BK446; obtain ⟨hcz44_0, hcz44_1, hfz44_0, hfz44_1⟩ := cz2_ BK447) | ((with_reducible refine gate_callee (f := 36) rfl ?_); refine goesL_ (some 29) rfl rfl Try.func36 (by kernel_rfl) rfl #[.agg #[.int .i64 a0_0, .slice A0_1 l0_1.length c0_1], .agg #[.int .i64 a1_0, .slice A1_1 l1_1.length c1_1]] rfl MP_ ?_; (with_reducible refine (zone_Leq.calls kj2 a0_0 _ _ l0_1 a1_0 _ _ l1_1 t452 t453 _ ?side1 ?side2 ?side3 ?side4 A18.out).mono ?_); (case side1 => exact sd_ (Kd.C_below HR0_1.out HB.out)); (case side2 => exact HC0_1.out); (case side3 => exact sd_ (Kd.C_below HR1_1.out HB.out)); (case side4 => exact HC1_1.out); rintro e w45 ⟨rfl, hb⟩; refine ⟨_, rfl, ?_⟩; have n_ := a_ (bb_ BK446 hb) (a_ (bb_ BK447 hb) (bs_ HB hb)); clear BK446 BK447 HB; obtain ⟨BK446, BK447, HB⟩ := n_; (try clear hb); (try clear hb2); (try clear hk); (try clear hi); obtain ⟨hcz46_0, hcz46_1, hfz46_0, hfz46_1⟩ := cz2_ BK446; obtain ⟨hcz47_0, hcz47_1, hfz47_0, hfz47_1⟩ := cz2_ BK447) | ((with_reducible refine gate_callee (f := 37) rfl ?_); refine goesL_ (some 35) rfl rfl Try.func37 (by kernel_rfl) rfl #[.agg #[.int .i64 a0_0, .slice A0_1 l0_1.length c0_1], .agg #[.int .i64 a1_0, .slice A1_1 l1_1.length c1_1]] rfl MP_ ?_; (with_reducible refine (zone_Meet.calls kj2 a0_0 _ _ l0_1 a1_0 _ _ l1_1 t454 t455 t458 _ ?side1 ?side2 ?side3 ?side4 A19.out).mono ?_); (case side1 => exact sd_ (Kd.C_below HR0_1.out HB.out)); (case side2 => exact HC0_1.out); (case side3 => exact sd_ (Kd.C_below HR1_1.out HB.out)); (case side4 => exact HC1_1.out); rintro e w48 ⟨v456, rfl, ho0, hb⟩; refine ⟨_, rfl, ?_⟩; have n_ := a_ (Aside0.mk (Kd.R_lower ho0 (below_size HB_))) (a_ (bb_ BK446 hb) (a_ (bb_ BK447 hb) (bs_ HB hb))); clear BK446 BK447 HB; obtain ⟨HO457, BK446, BK447, HB⟩ := n_; (try clear hb); (try clear hb2); (try clear hk); (try clear hi); (try clear ho0)) | ((with_reducible refine gate_dst (N := 8) rfl ?_); refine bx_ (N := 8) (cs := #[.int .i64 0, .slice none 0 0]) (t := 24) ?_; intro gb459 hg w49 hbox hb; have n_ := a_ (rb_ HO457 hb) (a_ (bb_ BK446 hb) (a_ (bb_ BK447 hb) (a_ (bs_ HB hb) (a_ (Aside0.mk hbox) (a_ (gs_ HB hg) (a_ (gs_ HB hg) (a_ (nl_ BK446 hg) (a_ (ng_ BK446 hg) (a_ (nl_ BK447 hg) (ng_ BK447 hg)))))))))); clear HO457 BK446 BK447 HB; obtain ⟨HO457, BK446, BK447, HB, BK459, GW459, GE459, NB446_459, NB459_446, NB447_459, NB459_447⟩ := n_; clear hb hbox hg; have hnb50 := NB459_446.out; have hnc50 := NB446_459.out; have hnb51 := NB459_447.out; have hnc51 := NB447_459.out; obtain ⟨hcz52_0, hcz52_1, hfz52_0, hfz52_1⟩ := cz2_ BK459; obtain ⟨Ao53, co53, eo53⟩ := Kd.R_slice HO457.out; subst eo53; obtain ⟨hcz54_0, hcz54_1, hfz54_0, hfz54_1⟩ := cz2_ BK446; obtain ⟨hcz55_0, hcz55_1, hfz55_0, hfz55_1⟩ := cz2_ BK447) | ((with_reducible refine gate_callee (f := 35) rfl ?_); refine goesL_ (some 41) rfl rfl Try.func35 (by kernel_rfl) rfl #[.agg #[.int .i64 a0_0, .slice A0_1 l0_1.length c0_1], .agg #[.int .i64 a1_0, .slice A1_1 l1_1.length c1_1]] rfl MP_ ?_; (with_reducible refine (zone_Join.calls kj2 a0_0 _ _ l0_1 a1_0 _ _ l1_1 t460 t461 t464 _ ?side1 ?side2 ?side3 ?side4 A20.out).mono ?_); (case side1 => exact Kd.C_below HR0_1.out HB_); (case side2 => exact HC0_1.out); (case side3 => exact Kd.C_below HR1_1.out HB_); (case side4 => exact HC1_1.out); rintro e w56 ⟨v462, rfl, ho0, hb⟩; refine ⟨_, rfl, ?_⟩; have n_ := a_ (Aside0.mk (Kd.R_elder' (rd_ (rf2_ HO457 BK459 (.int .i64 t454) (.slice Ao53 t455.length co53))) (Kd.R_base ho0) hb)) (a_ (Aside0.mk (Kd.R_lower (Kd.R_new' ho0 (Kd.R_lt (rd_ (rf2_ HO457 BK459 (.int .i64 t454) (.slice Ao53 t455.length co53))))) (below_size HB_))) (a_ (bc_ #[.int .i64 a0_0, .slice A0_1 l0_1.length c0_1] 24 BK446 hb) (a_ (bc_ #[.int .i64 a1_0, .slice A1_1 l1_1.length c1_1] 24 BK447 hb) (a_ (bc_ #[.int .i64 t454, .slice Ao53 t455.length co53] 24 BK459 hb) (bs_ HB hb))))); clear HO457 BK446 BK447 BK459 HB; obtain ⟨HO457, HO463, BK446, BK447, BK459, HB⟩ := n_; (try clear hb); (try clear hb2); (try clear hk); (try clear hi); (try clear ho0)) | ((with_reducible refine gate_dst (N := 10) rfl ?_); refine bx_ (N := 10) (cs := #[.int .i64 0, .slice none 0 0]) (t := 24) ?_; intro gb465 hg w57 hbox hb; have n_ := a_ (rb_ HO457 hb) (a_ (rb_ HO463 hb) (a_ (bb_ BK446 hb) (a_ (bb_ BK447 hb) (a_ (bb_ BK459 hb) (a_ (bs_ HB hb) (a_ (Aside0.mk hbox) (a_ (gs_ HB hg) (a_ (gs_ HB hg) (a_ (nl_ BK446 hg) (a_ (ng_ BK446 hg) (a_ (nl_ BK447 hg) (a_ (ng_ BK447 hg) (a_ (nl_ BK459 hg) (ng_ BK459 hg)))))))))))))); clear HO457 HO463 BK446 BK447 BK459 HB; obtain ⟨HO457, HO463, BK446, BK447, BK459, HB, BK465, GW465, GE465, NB446_465, NB465_446, NB447_465, NB465_447, NB459_465, NB465_459⟩ := n_; clear hb hbox hg; have hnb58 := NB465_446.out; have hnc58 := NB446_465.out; have hnb59 := NB465_447.out; have hnc59 := NB447_465.out; have hnb60 := NB465_459.out; have hnc60 := NB459_465.out; obtain ⟨hcz61_0, hcz61_1, hfz61_0, hfz61_1⟩ := cz2_ BK465; obtain ⟨Ao62, co62, eo62⟩ := Kd.R_slice HO463.out; subst eo62; obtain ⟨hcz63_0, hcz63_1, hfz63_0, hfz63_1⟩ := cz2_ BK446; obtain ⟨hcz64_0, hcz64_1, hfz64_0, hfz64_1⟩ := cz2_ BK447) | ((with_reducible refine gate_callee (f := 38) rfl ?_); refine goesL_ (some 47) rfl rfl Try.func38 (by kernel_rfl) rfl #[.agg #[.int .i64 a0_0, .slice A0_1 l0_1.length c0_1], .agg #[.int .i64 a1_0, .slice A1_1 l1_1.length c1_1]] rfl MP_ ?_; (with_reducible refine (zone_Widen.calls kj2 a0_0 _ _ l0_1 a1_0 _ _ l1_1 t466 t467 t470 _ ?side1 ?side2 ?side3 ?side4 A21.out).mono ?_); (case side1 => exact Kd.C_below HR0_1.out HB_); (case side2 => exact HC0_1.out); (case side3 => exact Kd.C_below HR1_1.out HB_); (case side4 => exact HC1_1.out); rintro e w65 ⟨v468, rfl, ho0, hb⟩; refine ⟨_, rfl, ?_⟩; have n_ := a_ (Aside0.mk (Kd.R_elder' (rd_ (rf2_ HO457 BK465 (.int .i64 t460) (.slice Ao62 t461.length co62))) (Kd.R_base ho0) hb)) (a_ (Aside0.mk (Kd.R_elder' (rd_ (rf2_ HO463 BK465 (.int .i64 t460) (.slice Ao62 t461.length co62))) (Kd.R_base ho0) hb)) (a_ (Aside0.mk (Kd.R_lower (Kd.R_new' (Kd.R_new' ho0 (Kd.R_lt (rd_ (rf2_ HO457 BK465 (.int .i64 t460) (.slice Ao62 t461.length co62))))) (Kd.R_lt (rd_ (rf2_ HO463 BK465 (.int .i64 t460) (.slice Ao62 t461.length co62))))) (below_size HB_))) (a_ (bc_ #[.int .i64 a0_0, .slice A0_1 l0_1.length c0_1] 24 BK446 hb) (a_ (bc_ #[.int .i64 a1_0, .slice A1_1 l1_1.length c1_1] 24 BK447 hb) (a_ (bc_ #[.int .i64 t454, .slice Ao53 t455.length co53] 24 BK459 hb) (a_ (bc_ #[.int .i64 t460, .slice Ao62 t461.length co62] 24 BK465 hb) (bs_ HB hb))))))); clear HO457 HO463 BK446 BK447 BK459 BK465 HB; obtain ⟨HO457, HO463, HO469, BK446, BK447, BK459, BK465, HB⟩ := n_; (try clear hb); (try clear hb2); (try clear hk); (try clear hi); (try clear ho0)) | ((with_reducible refine gate_dst (N := 12) rfl ?_); refine bx_ (N := 12) (cs := #[.int .i64 0, .slice none 0 0]) (t := 24) ?_; intro gb471 hg w66 hbox hb; have n_ := a_ (rb_ HO457 hb) (a_ (rb_ HO463 hb) (a_ (rb_ HO469 hb) (a_ (bb_ BK446 hb) (a_ (bb_ BK447 hb) (a_ (bb_ BK459 hb) (a_ (bb_ BK465 hb) (a_ (bs_ HB hb) (a_ (Aside0.mk hbox) (a_ (gs_ HB hg) (a_ (gs_ HB hg) (a_ (nl_ BK446 hg) (a_ (ng_ BK446 hg) (a_ (nl_ BK447 hg) (a_ (ng_ BK447 hg) (a_ (nl_ BK459 hg) (a_ (ng_ BK459 hg) (a_ (nl_ BK465 hg) (ng_ BK465 hg)))))))))))))))))); clear HO457 HO463 HO469 BK446 BK447 BK459 BK465 HB; obtain ⟨HO457, HO463, HO469, BK446, BK447, BK459, BK465, HB, BK471, GW471, GE471, NB446_471, NB471_446, NB447_471, NB471_447, NB459_471, NB471_459, NB465_471, NB471_465⟩ := n_; clear hb hbox hg; have hnb67 := NB471_446.out; have hnc67 := NB446_471.out; have hnb68 := NB471_447.out; have hnc68 := NB447_471.out; have hnb69 := NB471_459.out; have hnc69 := NB459_471.out; have hnb70 := NB471_465.out; have hnc70 := NB465_471.out; obtain ⟨hcz71_0, hcz71_1, hfz71_0, hfz71_1⟩ := cz2_ BK471; obtain ⟨Ao72, co72, eo72⟩ := Kd.R_slice HO469.out; subst eo72) | ((with_reducible refine gate_callee (f := 22) rfl ?_); refine goesL_ (some 50) rfl rfl Try.func22 (by kernel_rfl) rfl #[] rfl MP_ ?_; (with_reducible refine (warrantorlaw09_lives.calls kj2  true _ A22.out).mono ?_); rintro e w73 ⟨rfl, hb⟩; refine ⟨_, rfl, ?_⟩; have n_ := a_ (Aside0.mk (Kd.R_below (rd_ (rf2_ HO457 BK471 (.int .i64 t466) (.slice Ao72 t467.length co72))) hb)) (a_ (Aside0.mk (Kd.R_below (rd_ (rf2_ HO463 BK471 (.int .i64 t466) (.slice Ao72 t467.length co72))) hb)) (a_ (Aside0.mk (Kd.R_below (rd_ (rf2_ HO469 BK471 (.int .i64 t466) (.slice Ao72 t467.length co72))) hb)) (a_ (bc_ #[.int .i64 a0_0, .slice A0_1 l0_1.length c0_1] 24 BK446 hb) (a_ (bc_ #[.int .i64 a1_0, .slice A1_1 l1_1.length c1_1] 24 BK447 hb) (a_ (bc_ #[.int .i64 t454, .slice Ao53 t455.length co53] 24 BK459 hb) (a_ (bc_ #[.int .i64 t460, .slice Ao62 t461.length co62] 24 BK465 hb) (a_ (bc_ #[.int .i64 t466, .slice Ao72 t467.length co72] 24 BK471 hb) (bs_ HB hb)))))))); clear HO457 HO463 HO469 BK446 BK447 BK459 BK465 BK471 HB; obtain ⟨HO457, HO463, HO469, BK446, BK447, BK459, BK465, BK471, HB⟩ := n_; (try clear hb); (try clear hb2); (try clear hk); (try clear hi)))
      first | (obtain ⟨w73, hq_⟩ : ∃ x, x = w73.drewN nd := ⟨_, rfl⟩; rw [← hq_]; have q0_ := Aside0.mk (Kd.R_drewN HO457.out nd); rw [← hq_] at q0_; have q1_ := Aside0.mk (Kd.R_drewN HO463.out nd); rw [← hq_] at q1_; have q2_ := Aside0.mk (Kd.R_drewN HO469.out nd); rw [← hq_] at q2_; have q3_ := Aside0.mk (blk_drewN BK446.out nd); rw [← hq_] at q3_; have q4_ := Aside0.mk (blk_drewN BK447.out nd); rw [← hq_] at q4_; have q5_ := Aside0.mk (blk_drewN BK459.out nd); rw [← hq_] at q5_; have q6_ := Aside0.mk (blk_drewN BK465.out nd); rw [← hq_] at q6_; have q7_ := Aside0.mk (blk_drewN BK471.out nd); rw [← hq_] at q7_; have q8_ := Aside0.mk (pw_below_drewN HB.out nd); rw [← hq_] at q8_; clear HO457; clear HO463; clear HO469; clear BK446; clear BK447; clear BK459; clear BK465; clear BK471; clear HB; have HO457 := q0_; have HO463 := q1_; have HO469 := q2_; have BK446 := q3_; have BK447 := q4_; have BK459 := q5_; have BK465 := q6_; have BK471 := q7_; have HB := q8_; clear hq_ q0_ q1_ q2_ q3_ q4_ q5_ q6_ q7_ q8_) | skip
      have n_ := a_ (Aside0.mk (Kd.R_drew HO457.out)) (a_ (Aside0.mk (Kd.R_drew HO463.out)) (a_ (Aside0.mk (Kd.R_drew HO469.out)) (a_ (Aside0.mk (blk_drew BK446.out)) (a_ (Aside0.mk (blk_drew BK447.out)) (a_ (Aside0.mk (blk_drew BK459.out)) (a_ (Aside0.mk (blk_drew BK465.out)) (a_ (Aside0.mk (blk_drew BK471.out)) (Aside0.mk (below_drew1 HB.out)))))))))
      clear HO457 HO463 HO469 BK446 BK447 BK459 BK465 BK471 HB
      obtain ⟨HO457, HO463, HO469, BK446, BK447, BK459, BK465, BK471, HB⟩ := n_
      refine start_ (n := 27) (S := fun w' => w'.cell? ⟨gb446, 0, none⟩ = some (.int .i64 a0_0) ∧ w'.cell? ⟨gb446, 1, none⟩ = some (.slice A0_1 l0_1.length c0_1) ∧ w'.cell? ⟨gb447, 0, none⟩ = some (.int .i64 a1_0) ∧ w'.cell? ⟨gb447, 1, none⟩ = some (.slice A1_1 l1_1.length c1_1) ∧ w'.cell? ⟨gb459, 0, none⟩ = some (.int .i64 t454) ∧ w'.cell? ⟨gb459, 1, none⟩ = some (.slice Ao53 t455.length co53) ∧ w'.cell? ⟨gb465, 0, none⟩ = some (.int .i64 t460) ∧ w'.cell? ⟨gb465, 1, none⟩ = some (.slice Ao62 t461.length co62) ∧ w'.cell? ⟨gb471, 0, none⟩ = some (.int .i64 t466) ∧ w'.cell? ⟨gb471, 1, none⟩ = some (.slice Ao72 t467.length co72)) (ds := []) #[false, false, false, false, false, false, false, false, false, false, false, false, false, false, false, false, false, false, false, false, false, false, false, false, false, false, false] (by kernel_rfl) rfl rfl ⟨(blk_cell BK446.out 0).trans rfl, (blk_cell BK446.out 1).trans rfl, (blk_cell BK447.out 0).trans rfl, (blk_cell BK447.out 1).trans rfl, (blk_cell BK459.out 0).trans rfl, (blk_cell BK459.out 1).trans rfl, (blk_cell BK465.out 0).trans rfl, (blk_cell BK465.out 1).trans rfl, (blk_cell BK471.out 0).trans rfl, (blk_cell BK471.out 1).trans rfl⟩ (fun hHeld => ?_); refine with_tabW warrantorlaw09_ZoneTwo.tab12 warrantorlaw09_ZoneTwo.bits12 (fun HT_ HW_ => ?_)
      generalize w73.drew = w74 at HO457 HO463 HO469 BK446 BK447 BK459 BK465 BK471 HB hHeld ⊢
      refine pure_ (i := 0) (N := some 91) (v := ?_) (a' := ?_) #[true, false, false, false, false, false, false, false, false, false, false, false, false, false, false, false, false, false, false, false, false, false, false, false, false, false, false] rfl rfl (any_of HT_.out (by kernel_rfl)) (fun _ _ _ h => h) (Or.inl ⟨by rfl, ?_⟩) ?_ ?_
      rotate_left
      · intro w'
        go_simp
        with_reducible rfl
      rotate_left
      · exact AP_
      refine take_ (i := 1) (N := some 92) (v := ?_) (a' := ?_) #[true, true, false, false, false, false, false, false, false, false, false, false, false, false, false, false, false, false, false, false, false, false, false, false, false, false, false] rfl rfl (take_ofW HT_.out HW_.out (by kernel_rfl)) (fun _ _ _ h => h) (Or.inl ⟨by rfl, ?_⟩) hHeld ?_ ?_
      rotate_left
      · rintro w' ⟨s0, s1, s2, s3, s4, s5, s6, s7, s8, s9⟩
        go_simp
        with_reducible rfl
      rotate_left
      · exact AP_
      refine take_ (i := 2) (N := some 93) (v := ?_) (a' := ?_) #[true, true, true, false, false, false, false, false, false, false, false, false, false, false, false, false, false, false, false, false, false, false, false, false, false, false, false] rfl rfl (take_ofW HT_.out HW_.out (by kernel_rfl)) (fun _ _ _ h => h) (Or.inl ⟨by rfl, ?_⟩) hHeld ?_ ?_
      rotate_left
      · rintro w' ⟨s0, s1, s2, s3, s4, s5, s6, s7, s8, s9⟩
        go_simp
        with_reducible rfl
      rotate_left
      · exact AP_
      refine one_ (i := 3) (N := some 94) #[true, true, true, true, false, false, false, false, false, false, false, false, false, false, false, false, false, false, false, false, false, false, false, false, false, false, false] rfl rfl (one_of HT_.out (by kernel_rfl)) (by decide) (fun K hK => ?_)
      refine goes_ Try.func39 (by kernel_rfl) rfl #[.agg #[.int .i64 a0_0, .slice A0_1 l0_1.length c0_1], .agg #[.int .i64 a1_0, .slice A1_1 l1_1.length c1_1]] (by rfl) rfl rfl MP_ ?_
      with_reducible refine (warrantorref09_Leq.calls kj2 a0_0 _ _ l0_1 a1_0 _ _ l1_1 t476 _ ?side1 ?side2 ?side3 ?side4 A29.out).mono ?_
      (case side1 => exact sd_ (Kd.C_below HR0_1.out HB.out))
      (case side2 => exact HC0_1.out)
      (case side3 => exact sd_ (Kd.C_below HR1_1.out HB.out))
      (case side4 => exact HC1_1.out)
      rintro e w75 ⟨rfl, hb⟩
      refine ⟨_, rfl, ?_⟩
      have n_ := a_ (rb_ HO457 hb) (a_ (rb_ HO463 hb) (a_ (rb_ HO469 hb) (a_ (bb_ BK446 hb) (a_ (bb_ BK447 hb) (a_ (bb_ BK459 hb) (a_ (bb_ BK465 hb) (a_ (bb_ BK471 hb) (bs_ HB hb))))))))
      clear HO457 HO463 HO469 BK446 BK447 BK459 BK465 BK471 HB
      obtain ⟨HO457, HO463, HO469, BK446, BK447, BK459, BK465, BK471, HB⟩ := n_
      (try clear hb)
      (try clear hb2)
      (try clear hk)
      (try clear hi)
      refine hK.out _ _ ⟨(blk_cell BK446.out 0).trans rfl, (blk_cell BK446.out 1).trans rfl, (blk_cell BK447.out 0).trans rfl, (blk_cell BK447.out 1).trans rfl, (blk_cell BK459.out 0).trans rfl, (blk_cell BK459.out 1).trans rfl, (blk_cell BK465.out 0).trans rfl, (blk_cell BK465.out 1).trans rfl, (blk_cell BK471.out 0).trans rfl, (blk_cell BK471.out 1).trans rfl⟩ (fun hHeld => ?_)
      clear hK K
      refine norm_ (a' := ?_) ?_ ?_
      rotate_left
      · show Act.put _ (some 94) _ = _
        simp only [Act.put, List.setIfInBounds_toArray, List.set_cons_zero, List.set_cons_succ, i64_w, i32_w]
        rfl
      refine pure_ (i := 4) (N := some 95) (v := ?_) (a' := ?_) #[true, true, true, true, true, false, false, false, false, false, false, false, false, false, false, false, false, false, false, false, false, false, false, false, false, false, false] rfl rfl (any_of HT_.out (by kernel_rfl)) (fun _ _ _ h => h) (Or.inl ⟨by rfl, ?_⟩) ?_ ?_
      rotate_left
      · intro w'
        go_simp
        with_reducible rfl
      rotate_left
      · exact AP_
      refine pure_ (i := 5) (N := some 96) (v := ?_) (a' := ?_) #[true, true, true, true, true, true, false, false, false, false, false, false, false, false, false, false, false, false, false, false, false, false, false, false, false, false, false] rfl rfl (any_of HT_.out (by kernel_rfl)) (fun _ _ _ h => h) (Or.inl ⟨by rfl, ?_⟩) ?_ ?_
      rotate_left
      · intro w'
        go_simp
        with_reducible rfl
      rotate_left
      · exact AP_
      refine take_ (i := 6) (N := some 97) (v := ?_) (a' := ?_) #[true, true, true, true, true, true, true, false, false, false, false, false, false, false, false, false, false, false, false, false, false, false, false, false, false, false, false] rfl rfl (take_ofW HT_.out HW_.out (by kernel_rfl)) (fun _ _ _ h => h) (Or.inl ⟨by rfl, ?_⟩) hHeld ?_ ?_
      rotate_left
      · rintro w' ⟨s0, s1, s2, s3, s4, s5, s6, s7, s8, s9⟩
        go_simp
        with_reducible rfl
      rotate_left
      · exact AP_
      refine take_ (i := 7) (N := some 98) (v := ?_) (a' := ?_) #[true, true, true, true, true, true, true, true, false, false, false, false, false, false, false, false, false, false, false, false, false, false, false, false, false, false, false] rfl rfl (take_ofW HT_.out HW_.out (by kernel_rfl)) (fun _ _ _ h => h) (Or.inl ⟨by rfl, ?_⟩) hHeld ?_ ?_
      rotate_left
      · rintro w' ⟨s0, s1, s2, s3, s4, s5, s6, s7, s8, s9⟩
        go_simp
        with_reducible rfl
      rotate_left
      · exact AP_
      refine take_ (i := 8) (N := some 99) (v := ?_) (a' := ?_) #[true, true, true, true, true, true, true, true, true, false, false, false, false, false, false, false, false, false, false, false, false, false, false, false, false, false, false] rfl rfl (take_ofW HT_.out HW_.out (by kernel_rfl)) (fun _ _ _ h => h) (Or.inl ⟨by rfl, ?_⟩) hHeld ?_ ?_
      rotate_left
      · rintro w' ⟨s0, s1, s2, s3, s4, s5, s6, s7, s8, s9⟩
        go_simp
        with_reducible rfl
      rotate_left
      · exact AP_
      refine one_ (i := 9) (N := some 100) #[true, true, true, true, true, true, true, true, true, true, false, false, false, false, false, false, false, false, false, false, false, false, false, false, false, false, false] rfl rfl (one_of HT_.out (by kernel_rfl)) (by decide) (fun K hK => ?_)
      refine goes_ Try.func40 (by kernel_rfl) rfl #[.agg #[.int .i64 a0_0, .slice A0_1 l0_1.length c0_1], .agg #[.int .i64 a1_0, .slice A1_1 l1_1.length c1_1]] (by rfl) rfl rfl MP_ ?_
      with_reducible refine (warrantorref09_Meet.calls kj2 a0_0 _ _ l0_1 a1_0 _ _ l1_1 t477 t478 _ ?side1 ?side2 ?side3 ?side4 A31.out).mono ?_
      (case side1 => exact sd_ (Kd.C_below HR0_1.out HB.out))
      (case side2 => exact HC0_1.out)
      (case side3 => exact sd_ (Kd.C_below HR1_1.out HB.out))
      (case side4 => exact HC1_1.out)
      rintro e w76 ⟨v479, rfl, ho0, hb⟩
      refine ⟨_, rfl, ?_⟩
      have n_ := a_ (Aside0.mk (Kd.R_elder' (rd_ HO457.out) (Kd.R_base ho0) hb)) (a_ (Aside0.mk (Kd.R_elder' (rd_ HO463.out) (Kd.R_base ho0) hb)) (a_ (Aside0.mk (Kd.R_elder' (rd_ HO469.out) (Kd.R_base ho0) hb)) (a_ (Aside0.mk (Kd.R_lower (Kd.R_new' (Kd.R_new' (Kd.R_new' ho0 (Kd.R_lt (rd_ HO457.out))) (Kd.R_lt (rd_ HO463.out))) (Kd.R_lt (rd_ HO469.out))) (below_size HB_))) (a_ (bb_ BK446 hb) (a_ (bb_ BK447 hb) (a_ (bb_ BK459 hb) (a_ (bb_ BK465 hb) (a_ (bb_ BK471 hb) (bs_ HB hb)))))))))
      clear HO457 HO463 HO469 BK446 BK447 BK459 BK465 BK471 HB
      obtain ⟨HO457, HO463, HO469, HO480, BK446, BK447, BK459, BK465, BK471, HB⟩ := n_
      (try clear hb)
      (try clear hb2)
      (try clear hk)
      (try clear hi)
      (try clear ho0)
      obtain ⟨Ao77, co77, eo77⟩ := Kd.R_slice HO480.out
      (first | subst eo77 | (injection eo77 with f1_ f2_ f3_; have f4_ := f1_.symm; have f5_ := f3_.symm; clear f1_ f2_ f3_; subst f4_; subst f5_))
      refine hK.out _ _ ⟨(blk_cell BK446.out 0).trans rfl, (blk_cell BK446.out 1).trans rfl, (blk_cell BK447.out 0).trans rfl, (blk_cell BK447.out 1).trans rfl, (blk_cell BK459.out 0).trans rfl, (blk_cell BK459.out 1).trans rfl, (blk_cell BK465.out 0).trans rfl, (blk_cell BK465.out 1).trans rfl, (blk_cell BK471.out 0).trans rfl, (blk_cell BK471.out 1).trans rfl⟩ (fun hHeld => ?_)
      clear hK K
      refine norm_ (a' := ?_) ?_ ?_
      rotate_left
      · show Act.put _ (some 100) _ = _
        simp only [Act.put, List.setIfInBounds_toArray, List.set_cons_zero, List.set_cons_succ, i64_w, i32_w]
        rfl
      refine one_ (i := 10) (N := some 101) #[true, true, true, true, true, true, true, true, true, true, true, false, false, false, false, false, false, false, false, false, false, false, false, false, false, false, false] rfl rfl (one_of HT_.out (by kernel_rfl)) (by decide) (fun K hK => ?_)
      refine goes_ Try.func17 (by kernel_rfl) rfl #[.agg #[.int .i64 t454, .slice Ao53 t455.length co53], .agg #[.int .i64 t477, .slice Ao77 t478.length co77]] (by rfl) rfl rfl MP_ ?_
      with_reducible refine (warrantorref08_Same.calls kj2 t454 _ _ t455 t477 _ _ t478 true _ ?side1 ?side2 ?side3 ?side4 A32.out).mono ?_
      (case side1 => repeat (first | exact (Kd.R_reads' HO457.out).2.2 | (with_reducible refine Kd.C_alloc ?_ _) | (with_reducible refine Kd.C_drewN ?_ _) | (with_reducible refine Kd.C_drew ?_)))
      (case side2 => exact (Kd.R_reads' HO457.out).2.1)
      (case side3 => repeat (first | exact (Kd.R_reads' HO480.out).2.2 | (with_reducible refine Kd.C_alloc ?_ _) | (with_reducible refine Kd.C_drewN ?_ _) | (with_reducible refine Kd.C_drew ?_)))
      (case side4 => exact (Kd.R_reads' HO480.out).2.1)
      rintro e w78 ⟨rfl, hb⟩
      refine ⟨_, rfl, ?_⟩
      have n_ := a_ (rb_ HO457 hb) (a_ (rb_ HO463 hb) (a_ (rb_ HO469 hb) (a_ (rb_ HO480 hb) (a_ (bb_ BK446 hb) (a_ (bb_ BK447 hb) (a_ (bb_ BK459 hb) (a_ (bb_ BK465 hb) (a_ (bb_ BK471 hb) (bs_ HB hb)))))))))
      clear HO457 HO463 HO469 HO480 BK446 BK447 BK459 BK465 BK471 HB
      obtain ⟨HO457, HO463, HO469, HO480, BK446, BK447, BK459, BK465, BK471, HB⟩ := n_
      (try clear hb)
      (try clear hb2)
      (try clear hk)
      (try clear hi)
      refine hK.out _ _ ⟨(blk_cell BK446.out 0).trans rfl, (blk_cell BK446.out 1).trans rfl, (blk_cell BK447.out 0).trans rfl, (blk_cell BK447.out 1).trans rfl, (blk_cell BK459.out 0).trans rfl, (blk_cell BK459.out 1).trans rfl, (blk_cell BK465.out 0).trans rfl, (blk_cell BK465.out 1).trans rfl, (blk_cell BK471.out 0).trans rfl, (blk_cell BK471.out 1).trans rfl⟩ (fun hHeld => ?_)
      clear hK K
      refine norm_ (a' := ?_) ?_ ?_
      rotate_left
      · show Act.put _ (some 101) _ = _
        simp only [Act.put, List.setIfInBounds_toArray, List.set_cons_zero, List.set_cons_succ, i64_w, i32_w]
        rfl
      refine pure_ (i := 11) (N := some 102) (v := ?_) (a' := ?_) #[true, true, true, true, true, true, true, true, true, true, true, true, false, false, false, false, false, false, false, false, false, false, false, false, false, false, false] rfl rfl (any_of HT_.out (by kernel_rfl)) (fun _ _ _ h => h) (Or.inl ⟨by rfl, ?_⟩) ?_ ?_
      rotate_left
      · intro w'
        go_simp
        with_reducible rfl
      rotate_left
      · exact AP_
      refine pure_ (i := 12) (N := some 103) (v := ?_) (a' := ?_) #[true, true, true, true, true, true, true, true, true, true, true, true, true, false, false, false, false, false, false, false, false, false, false, false, false, false, false] rfl rfl (any_of HT_.out (by kernel_rfl)) (fun _ _ _ h => h) (Or.inl ⟨by rfl, ?_⟩) ?_ ?_
      rotate_left
      · intro w'
        go_simp
        with_reducible rfl
      rotate_left
      · exact AP_
      refine take_ (i := 13) (N := some 104) (v := ?_) (a' := ?_) #[true, true, true, true, true, true, true, true, true, true, true, true, true, true, false, false, false, false, false, false, false, false, false, false, false, false, false] rfl rfl (take_ofW HT_.out HW_.out (by kernel_rfl)) (fun _ _ _ h => h) (Or.inl ⟨by rfl, ?_⟩) hHeld ?_ ?_
      rotate_left
      · rintro w' ⟨s0, s1, s2, s3, s4, s5, s6, s7, s8, s9⟩
        go_simp
        with_reducible rfl
      rotate_left
      · exact AP_
      refine take_ (i := 14) (N := some 105) (v := ?_) (a' := ?_) #[true, true, true, true, true, true, true, true, true, true, true, true, true, true, true, false, false, false, false, false, false, false, false, false, false, false, false] rfl rfl (take_ofW HT_.out HW_.out (by kernel_rfl)) (fun _ _ _ h => h) (Or.inl ⟨by rfl, ?_⟩) hHeld ?_ ?_
      rotate_left
      · rintro w' ⟨s0, s1, s2, s3, s4, s5, s6, s7, s8, s9⟩
        go_simp
        with_reducible rfl
      rotate_left
      · exact AP_
      refine take_ (i := 15) (N := some 106) (v := ?_) (a' := ?_) #[true, true, true, true, true, true, true, true, true, true, true, true, true, true, true, true, false, false, false, false, false, false, false, false, false, false, false] rfl rfl (take_ofW HT_.out HW_.out (by kernel_rfl)) (fun _ _ _ h => h) (Or.inl ⟨by rfl, ?_⟩) hHeld ?_ ?_
      rotate_left
      · rintro w' ⟨s0, s1, s2, s3, s4, s5, s6, s7, s8, s9⟩
        go_simp
        with_reducible rfl
      rotate_left
      · exact AP_
      refine one_ (i := 16) (N := some 107) #[true, true, true, true, true, true, true, true, true, true, true, true, true, true, true, true, true, false, false, false, false, false, false, false, false, false, false] rfl rfl (one_of HT_.out (by kernel_rfl)) (by decide) (fun K hK => ?_)
      refine goes_ Try.func41 (by kernel_rfl) rfl #[.agg #[.int .i64 a0_0, .slice A0_1 l0_1.length c0_1], .agg #[.int .i64 a1_0, .slice A1_1 l1_1.length c1_1]] (by rfl) rfl rfl MP_ ?_
      with_reducible refine (warrantorref09_Join.calls kj2 a0_0 (fun k_ => k_ < w.heap.size) _ _ l0_1 a1_0 (fun k_ => k_ < w.heap.size) _ _ l1_1 t482 t483 _ ?side1 ?side2 A34.out).mono ?_
      (case side1 => exact Kd.V_mk HC0_1.out (Kd.F_below (Kd.C_F (Kd.heap_int .i64) HR0_1.out) HB_))
      (case side2 => exact Kd.V_mk HC1_1.out (Kd.F_below (Kd.C_F (Kd.heap_int .i64) HR1_1.out) HB_))
      rintro e w79 ⟨v484, rfl, ho0, hb⟩
      refine ⟨_, rfl, ?_⟩
      have n_ := a_ (rb_ HO457 hb) (a_ (rb_ HO463 hb) (a_ (rb_ HO469 hb) (a_ (rb_ HO480 hb) (a_ (Aside0.mk (Kd.V_lower (Kd.V_mono (ok' := fun k_ => some k_ ≠ (.slice Ao53 t455.length co53 : Value).ownBlock ∧ some k_ ≠ (.slice Ao62 t461.length co62 : Value).ownBlock ∧ some k_ ≠ (.slice Ao72 t467.length co72 : Value).ownBlock ∧ some k_ ≠ (.slice Ao77 t478.length co77 : Value).ownBlock ∧ k_ ≠ gb446 ∧ k_ ≠ gb447 ∧ k_ ≠ gb459 ∧ k_ ≠ gb465 ∧ k_ ≠ gb471) ho0 (fun k_ hk_ => ⟨Or.elim hk_ (fun hs_ => Or.elim hs_ (fun hs_ => fun e_ => Nat.not_le.2 hs_ (Kd.R_base HO457.out k_ e_.symm)) (fun hs_ => fun e_ => Nat.not_le.2 hs_ (Kd.R_base HO457.out k_ e_.symm))) (fun hn_ => (Kd.fresh' (Kd.R_lt (rd_ HO457.out)) k_ hn_)), Or.elim hk_ (fun hs_ => Or.elim hs_ (fun hs_ => fun e_ => Nat.not_le.2 hs_ (Kd.R_base HO463.out k_ e_.symm)) (fun hs_ => fun e_ => Nat.not_le.2 hs_ (Kd.R_base HO463.out k_ e_.symm))) (fun hn_ => (Kd.fresh' (Kd.R_lt (rd_ HO463.out)) k_ hn_)), Or.elim hk_ (fun hs_ => Or.elim hs_ (fun hs_ => fun e_ => Nat.not_le.2 hs_ (Kd.R_base HO469.out k_ e_.symm)) (fun hs_ => fun e_ => Nat.not_le.2 hs_ (Kd.R_base HO469.out k_ e_.symm))) (fun hn_ => (Kd.fresh' (Kd.R_lt (rd_ HO469.out)) k_ hn_)), Or.elim hk_ (fun hs_ => Or.elim hs_ (fun hs_ => fun e_ => Nat.not_le.2 hs_ (Kd.R_base HO480.out k_ e_.symm)) (fun hs_ => fun e_ => Nat.not_le.2 hs_ (Kd.R_base HO480.out k_ e_.symm))) (fun hn_ => (Kd.fresh' (Kd.R_lt (rd_ HO480.out)) k_ hn_)), Or.elim hk_ (fun hs_ => Or.elim hs_ (fun hs_ => fun e_ => Nat.not_le.2 hs_ (by rw [e_]; exact GW446.out)) (fun hs_ => fun e_ => Nat.not_le.2 hs_ (by rw [e_]; exact GW446.out))) (fun hn_ => (Kd.freshB (g := gb446) (o := .cells #[.int .i64 a0_0, .slice A0_1 l0_1.length c0_1] 24 (0, 0)) (bk_ BK446.out) k_ hn_)), Or.elim hk_ (fun hs_ => Or.elim hs_ (fun hs_ => fun e_ => Nat.not_le.2 hs_ (by rw [e_]; exact GW447.out)) (fun hs_ => fun e_ => Nat.not_le.2 hs_ (by rw [e_]; exact GW447.out))) (fun hn_ => (Kd.freshB (g := gb447) (o := .cells #[.int .i64 a1_0, .slice A1_1 l1_1.length c1_1] 24 (0, 0)) (bk_ BK447.out) k_ hn_)), Or.elim hk_ (fun hs_ => Or.elim hs_ (fun hs_ => fun e_ => Nat.not_le.2 hs_ (by rw [e_]; exact GW459.out)) (fun hs_ => fun e_ => Nat.not_le.2 hs_ (by rw [e_]; exact GW459.out))) (fun hn_ => (Kd.freshB (g := gb459) (o := .cells #[.int .i64 t454, .slice Ao53 t455.length co53] 24 (0, 0)) (bk_ BK459.out) k_ hn_)), Or.elim hk_ (fun hs_ => Or.elim hs_ (fun hs_ => fun e_ => Nat.not_le.2 hs_ (by rw [e_]; exact GW465.out)) (fun hs_ => fun e_ => Nat.not_le.2 hs_ (by rw [e_]; exact GW465.out))) (fun hn_ => (Kd.freshB (g := gb465) (o := .cells #[.int .i64 t460, .slice Ao62 t461.length co62] 24 (0, 0)) (bk_ BK465.out) k_ hn_)), Or.elim hk_ (fun hs_ => Or.elim hs_ (fun hs_ => fun e_ => Nat.not_le.2 hs_ (by rw [e_]; exact GW471.out)) (fun hs_ => fun e_ => Nat.not_le.2 hs_ (by rw [e_]; exact GW471.out))) (fun hn_ => (Kd.freshB (g := gb471) (o := .cells #[.int .i64 t466, .slice Ao72 t467.length co72] 24 (0, 0)) (bk_ BK471.out) k_ hn_))⟩)) (below_size HB_))) (a_ (bb_ BK446 hb) (a_ (bb_ BK447 hb) (a_ (bb_ BK459 hb) (a_ (bb_ BK465 hb) (a_ (bb_ BK471 hb) (bs_ HB hb))))))))))
      clear HO457 HO463 HO469 HO480 BK446 BK447 BK459 BK465 BK471 HB
      obtain ⟨HO457, HO463, HO469, HO480, HO485, BK446, BK447, BK459, BK465, BK471, HB⟩ := n_
      (try clear hb)
      (try clear hb2)
      (try clear hk)
      (try clear hi)
      (try clear ho0)
      obtain ⟨Ao80, co80, eo80⟩ := Kd.V_slice HO485.out
      (first | subst eo80 | (injection eo80 with f1_ f2_ f3_; have f4_ := f1_.symm; have f5_ := f3_.symm; clear f1_ f2_ f3_; subst f4_; subst f5_))
      refine hK.out _ _ ⟨(blk_cell BK446.out 0).trans rfl, (blk_cell BK446.out 1).trans rfl, (blk_cell BK447.out 0).trans rfl, (blk_cell BK447.out 1).trans rfl, (blk_cell BK459.out 0).trans rfl, (blk_cell BK459.out 1).trans rfl, (blk_cell BK465.out 0).trans rfl, (blk_cell BK465.out 1).trans rfl, (blk_cell BK471.out 0).trans rfl, (blk_cell BK471.out 1).trans rfl⟩ (fun hHeld => ?_)
      clear hK K
      refine norm_ (a' := ?_) ?_ ?_
      rotate_left
      · show Act.put _ (some 107) _ = _
        simp only [Act.put, List.setIfInBounds_toArray, List.set_cons_zero, List.set_cons_succ, i64_w, i32_w]
        rfl
      refine one_ (i := 17) (N := some 108) #[true, true, true, true, true, true, true, true, true, true, true, true, true, true, true, true, true, true, false, false, false, false, false, false, false, false, false] rfl rfl (one_of HT_.out (by kernel_rfl)) (by decide) (fun K hK => ?_)
      refine goes_ Try.func17 (by kernel_rfl) rfl #[.agg #[.int .i64 t460, .slice Ao62 t461.length co62], .agg #[.int .i64 t482, .slice Ao80 t483.length co80]] (by rfl) rfl rfl MP_ ?_
      with_reducible refine (warrantorref08_Same.calls kj2 t460 _ _ t461 t482 _ _ t483 true _ ?side1 ?side2 ?side3 ?side4 A35.out).mono ?_
      (case side1 => repeat (first | exact (Kd.R_reads' HO463.out).2.2 | (with_reducible refine Kd.C_alloc ?_ _) | (with_reducible refine Kd.C_drewN ?_ _) | (with_reducible refine Kd.C_drew ?_)))
      (case side2 => exact (Kd.R_reads' HO463.out).2.1)
      (case side3 => repeat (first | exact (Kd.V_reads' HO485.out).2.2 | (with_reducible refine Kd.C_alloc ?_ _) | (with_reducible refine Kd.C_drewN ?_ _) | (with_reducible refine Kd.C_drew ?_)))
      (case side4 => exact (Kd.V_reads' HO485.out).2.1)
      rintro e w81 ⟨rfl, hb⟩
      refine ⟨_, rfl, ?_⟩
      have n_ := a_ (rb_ HO457 hb) (a_ (rb_ HO463 hb) (a_ (rb_ HO469 hb) (a_ (rb_ HO480 hb) (a_ (Aside0.mk (Kd.V_below (by (with_reducible repeat (first | apply Kd.V_alloc | apply Kd.V_drewN | apply Kd.V_drew)); exact HO485.out) hb)) (a_ (bb_ BK446 hb) (a_ (bb_ BK447 hb) (a_ (bb_ BK459 hb) (a_ (bb_ BK465 hb) (a_ (bb_ BK471 hb) (bs_ HB hb))))))))))
      clear HO457 HO463 HO469 HO480 HO485 BK446 BK447 BK459 BK465 BK471 HB
      obtain ⟨HO457, HO463, HO469, HO480, HO485, BK446, BK447, BK459, BK465, BK471, HB⟩ := n_
      (try clear hb)
      (try clear hb2)
      (try clear hk)
      (try clear hi)
      refine hK.out _ _ ⟨(blk_cell BK446.out 0).trans rfl, (blk_cell BK446.out 1).trans rfl, (blk_cell BK447.out 0).trans rfl, (blk_cell BK447.out 1).trans rfl, (blk_cell BK459.out 0).trans rfl, (blk_cell BK459.out 1).trans rfl, (blk_cell BK465.out 0).trans rfl, (blk_cell BK465.out 1).trans rfl, (blk_cell BK471.out 0).trans rfl, (blk_cell BK471.out 1).trans rfl⟩ (fun hHeld => ?_)
      clear hK K
      refine norm_ (a' := ?_) ?_ ?_
      rotate_left
      · show Act.put _ (some 108) _ = _
        simp only [Act.put, List.setIfInBounds_toArray, List.set_cons_zero, List.set_cons_succ, i64_w, i32_w]
        rfl
      refine pure_ (i := 18) (N := some 109) (v := ?_) (a' := ?_) #[true, true, true, true, true, true, true, true, true, true, true, true, true, true, true, true, true, true, true, false, false, false, false, false, false, false, false] rfl rfl (any_of HT_.out (by kernel_rfl)) (fun _ _ _ h => h) (Or.inl ⟨by rfl, ?_⟩) ?_ ?_
      rotate_left
      · intro w'
        go_simp
        with_reducible rfl
      rotate_left
      · exact AP_
      refine pure_ (i := 19) (N := some 110) (v := ?_) (a' := ?_) #[true, true, true, true, true, true, true, true, true, true, true, true, true, true, true, true, true, true, true, true, false, false, false, false, false, false, false] rfl rfl (any_of HT_.out (by kernel_rfl)) (fun _ _ _ h => h) (Or.inl ⟨by rfl, ?_⟩) ?_ ?_
      rotate_left
      · intro w'
        go_simp
        with_reducible rfl
      rotate_left
      · exact AP_
      refine take_ (i := 20) (N := some 111) (v := ?_) (a' := ?_) #[true, true, true, true, true, true, true, true, true, true, true, true, true, true, true, true, true, true, true, true, true, false, false, false, false, false, false] rfl rfl (take_ofW HT_.out HW_.out (by kernel_rfl)) (fun _ _ _ h => h) (Or.inl ⟨by rfl, ?_⟩) hHeld ?_ ?_
      rotate_left
      · rintro w' ⟨s0, s1, s2, s3, s4, s5, s6, s7, s8, s9⟩
        go_simp
        with_reducible rfl
      rotate_left
      · exact AP_
      refine take_ (i := 21) (N := some 112) (v := ?_) (a' := ?_) #[true, true, true, true, true, true, true, true, true, true, true, true, true, true, true, true, true, true, true, true, true, true, false, false, false, false, false] rfl rfl (take_ofW HT_.out HW_.out (by kernel_rfl)) (fun _ _ _ h => h) (Or.inl ⟨by rfl, ?_⟩) hHeld ?_ ?_
      rotate_left
      · rintro w' ⟨s0, s1, s2, s3, s4, s5, s6, s7, s8, s9⟩
        go_simp
        with_reducible rfl
      rotate_left
      · exact AP_
      refine take_ (i := 22) (N := some 113) (v := ?_) (a' := ?_) #[true, true, true, true, true, true, true, true, true, true, true, true, true, true, true, true, true, true, true, true, true, true, true, false, false, false, false] rfl rfl (take_ofW HT_.out HW_.out (by kernel_rfl)) (fun _ _ _ h => h) (Or.inl ⟨by rfl, ?_⟩) hHeld ?_ ?_
      rotate_left
      · rintro w' ⟨s0, s1, s2, s3, s4, s5, s6, s7, s8, s9⟩
        go_simp
        with_reducible rfl
      rotate_left
      · exact AP_
      refine one_ (i := 23) (N := some 114) #[true, true, true, true, true, true, true, true, true, true, true, true, true, true, true, true, true, true, true, true, true, true, true, true, false, false, false] rfl rfl (one_of HT_.out (by kernel_rfl)) (by decide) (fun K hK => ?_)
      refine goes_ Try.func42 (by kernel_rfl) rfl #[.agg #[.int .i64 a0_0, .slice A0_1 l0_1.length c0_1], .agg #[.int .i64 a1_0, .slice A1_1 l1_1.length c1_1]] (by rfl) rfl rfl MP_ ?_
      with_reducible refine (warrantorref09_Widen.calls kj2 a0_0 (fun k_ => k_ < w.heap.size) _ _ l0_1 a1_0 (fun k_ => k_ < w.heap.size) _ _ l1_1 t487 t488 _ ?side1 ?side2 A37.out).mono ?_
      (case side1 => exact Kd.V_mk HC0_1.out (Kd.F_below (Kd.C_F (Kd.heap_int .i64) HR0_1.out) HB_))
      (case side2 => exact Kd.V_mk HC1_1.out (Kd.F_below (Kd.C_F (Kd.heap_int .i64) HR1_1.out) HB_))
      rintro e w82 ⟨v489, rfl, ho0, hb⟩
      refine ⟨_, rfl, ?_⟩
      have n_ := a_ (rb_ HO457 hb) (a_ (rb_ HO463 hb) (a_ (rb_ HO469 hb) (a_ (rb_ HO480 hb) (a_ (Aside0.mk (Kd.V_below (by (with_reducible repeat (first | apply Kd.V_alloc | apply Kd.V_drewN | apply Kd.V_drew)); exact HO485.out) hb)) (a_ (Aside0.mk (Kd.V_lower (Kd.V_mono (ok' := fun k_ => some k_ ≠ (.slice Ao53 t455.length co53 : Value).ownBlock ∧ some k_ ≠ (.slice Ao62 t461.length co62 : Value).ownBlock ∧ some k_ ≠ (.slice Ao72 t467.length co72 : Value).ownBlock ∧ some k_ ≠ (.slice Ao77 t478.length co77 : Value).ownBlock ∧ k_ ≠ gb446 ∧ k_ ≠ gb447 ∧ k_ ≠ gb459 ∧ k_ ≠ gb465 ∧ k_ ≠ gb471) ho0 (fun k_ hk_ => ⟨Or.elim hk_ (fun hs_ => Or.elim hs_ (fun hs_ => fun e_ => Nat.not_le.2 hs_ (Kd.R_base HO457.out k_ e_.symm)) (fun hs_ => fun e_ => Nat.not_le.2 hs_ (Kd.R_base HO457.out k_ e_.symm))) (fun hn_ => (Kd.fresh' (Kd.R_lt (rd_ HO457.out)) k_ hn_)), Or.elim hk_ (fun hs_ => Or.elim hs_ (fun hs_ => fun e_ => Nat.not_le.2 hs_ (Kd.R_base HO463.out k_ e_.symm)) (fun hs_ => fun e_ => Nat.not_le.2 hs_ (Kd.R_base HO463.out k_ e_.symm))) (fun hn_ => (Kd.fresh' (Kd.R_lt (rd_ HO463.out)) k_ hn_)), Or.elim hk_ (fun hs_ => Or.elim hs_ (fun hs_ => fun e_ => Nat.not_le.2 hs_ (Kd.R_base HO469.out k_ e_.symm)) (fun hs_ => fun e_ => Nat.not_le.2 hs_ (Kd.R_base HO469.out k_ e_.symm))) (fun hn_ => (Kd.fresh' (Kd.R_lt (rd_ HO469.out)) k_ hn_)), Or.elim hk_ (fun hs_ => Or.elim hs_ (fun hs_ => fun e_ => Nat.not_le.2 hs_ (Kd.R_base HO480.out k_ e_.symm)) (fun hs_ => fun e_ => Nat.not_le.2 hs_ (Kd.R_base HO480.out k_ e_.symm))) (fun hn_ => (Kd.fresh' (Kd.R_lt (rd_ HO480.out)) k_ hn_)), Or.elim hk_ (fun hs_ => Or.elim hs_ (fun hs_ => fun e_ => Nat.not_le.2 hs_ (by rw [e_]; exact GW446.out)) (fun hs_ => fun e_ => Nat.not_le.2 hs_ (by rw [e_]; exact GW446.out))) (fun hn_ => (Kd.freshB (g := gb446) (o := .cells #[.int .i64 a0_0, .slice A0_1 l0_1.length c0_1] 24 (0, 0)) (bk_ BK446.out) k_ hn_)), Or.elim hk_ (fun hs_ => Or.elim hs_ (fun hs_ => fun e_ => Nat.not_le.2 hs_ (by rw [e_]; exact GW447.out)) (fun hs_ => fun e_ => Nat.not_le.2 hs_ (by rw [e_]; exact GW447.out))) (fun hn_ => (Kd.freshB (g := gb447) (o := .cells #[.int .i64 a1_0, .slice A1_1 l1_1.length c1_1] 24 (0, 0)) (bk_ BK447.out) k_ hn_)), Or.elim hk_ (fun hs_ => Or.elim hs_ (fun hs_ => fun e_ => Nat.not_le.2 hs_ (by rw [e_]; exact GW459.out)) (fun hs_ => fun e_ => Nat.not_le.2 hs_ (by rw [e_]; exact GW459.out))) (fun hn_ => (Kd.freshB (g := gb459) (o := .cells #[.int .i64 t454, .slice Ao53 t455.length co53] 24 (0, 0)) (bk_ BK459.out) k_ hn_)), Or.elim hk_ (fun hs_ => Or.elim hs_ (fun hs_ => fun e_ => Nat.not_le.2 hs_ (by rw [e_]; exact GW465.out)) (fun hs_ => fun e_ => Nat.not_le.2 hs_ (by rw [e_]; exact GW465.out))) (fun hn_ => (Kd.freshB (g := gb465) (o := .cells #[.int .i64 t460, .slice Ao62 t461.length co62] 24 (0, 0)) (bk_ BK465.out) k_ hn_)), Or.elim hk_ (fun hs_ => Or.elim hs_ (fun hs_ => fun e_ => Nat.not_le.2 hs_ (by rw [e_]; exact GW471.out)) (fun hs_ => fun e_ => Nat.not_le.2 hs_ (by rw [e_]; exact GW471.out))) (fun hn_ => (Kd.freshB (g := gb471) (o := .cells #[.int .i64 t466, .slice Ao72 t467.length co72] 24 (0, 0)) (bk_ BK471.out) k_ hn_))⟩)) (below_size HB_))) (a_ (bb_ BK446 hb) (a_ (bb_ BK447 hb) (a_ (bb_ BK459 hb) (a_ (bb_ BK465 hb) (a_ (bb_ BK471 hb) (bs_ HB hb)))))))))))
      clear HO457 HO463 HO469 HO480 HO485 BK446 BK447 BK459 BK465 BK471 HB
      obtain ⟨HO457, HO463, HO469, HO480, HO485, HO490, BK446, BK447, BK459, BK465, BK471, HB⟩ := n_
      (try clear hb)
      (try clear hb2)
      (try clear hk)
      (try clear hi)
      (try clear ho0)
      obtain ⟨Ao83, co83, eo83⟩ := Kd.V_slice HO490.out
      (first | subst eo83 | (injection eo83 with f1_ f2_ f3_; have f4_ := f1_.symm; have f5_ := f3_.symm; clear f1_ f2_ f3_; subst f4_; subst f5_))
      refine hK.out _ _ ⟨(blk_cell BK446.out 0).trans rfl, (blk_cell BK446.out 1).trans rfl, (blk_cell BK447.out 0).trans rfl, (blk_cell BK447.out 1).trans rfl, (blk_cell BK459.out 0).trans rfl, (blk_cell BK459.out 1).trans rfl, (blk_cell BK465.out 0).trans rfl, (blk_cell BK465.out 1).trans rfl, (blk_cell BK471.out 0).trans rfl, (blk_cell BK471.out 1).trans rfl⟩ (fun hHeld => ?_)
      clear hK K
      refine norm_ (a' := ?_) ?_ ?_
      rotate_left
      · show Act.put _ (some 114) _ = _
        simp only [Act.put, List.setIfInBounds_toArray, List.set_cons_zero, List.set_cons_succ, i64_w, i32_w]
        rfl
      refine one_ (i := 24) (N := some 115) #[true, true, true, true, true, true, true, true, true, true, true, true, true, true, true, true, true, true, true, true, true, true, true, true, true, false, false] rfl rfl (one_of HT_.out (by kernel_rfl)) (by decide) (fun K hK => ?_)
      refine goes_ Try.func17 (by kernel_rfl) rfl #[.agg #[.int .i64 t466, .slice Ao72 t467.length co72], .agg #[.int .i64 t487, .slice Ao83 t488.length co83]] (by rfl) rfl rfl MP_ ?_
      with_reducible refine (warrantorref08_Same.calls kj2 t466 _ _ t467 t487 _ _ t488 t491 _ ?side1 ?side2 ?side3 ?side4 A38.out).mono ?_
      (case side1 => repeat (first | exact (Kd.R_reads' HO469.out).2.2 | (with_reducible refine Kd.C_alloc ?_ _) | (with_reducible refine Kd.C_drewN ?_ _) | (with_reducible refine Kd.C_drew ?_)))
      (case side2 => exact (Kd.R_reads' HO469.out).2.1)
      (case side3 => repeat (first | exact (Kd.V_reads' HO490.out).2.2 | (with_reducible refine Kd.C_alloc ?_ _) | (with_reducible refine Kd.C_drewN ?_ _) | (with_reducible refine Kd.C_drew ?_)))
      (case side4 => exact (Kd.V_reads' HO490.out).2.1)
      rintro e w84 ⟨rfl, hb⟩
      refine ⟨_, rfl, ?_⟩
      have n_ := a_ (rb_ HO457 hb) (a_ (rb_ HO463 hb) (a_ (rb_ HO469 hb) (a_ (rb_ HO480 hb) (a_ (Aside0.mk (Kd.V_below (by (with_reducible repeat (first | apply Kd.V_alloc | apply Kd.V_drewN | apply Kd.V_drew)); exact HO485.out) hb)) (a_ (Aside0.mk (Kd.V_below (by (with_reducible repeat (first | apply Kd.V_alloc | apply Kd.V_drewN | apply Kd.V_drew)); exact HO490.out) hb)) (a_ (bb_ BK446 hb) (a_ (bb_ BK447 hb) (a_ (bb_ BK459 hb) (a_ (bb_ BK465 hb) (a_ (bb_ BK471 hb) (bs_ HB hb)))))))))))
      clear HO457 HO463 HO469 HO480 HO485 HO490 BK446 BK447 BK459 BK465 BK471 HB
      obtain ⟨HO457, HO463, HO469, HO480, HO485, HO490, BK446, BK447, BK459, BK465, BK471, HB⟩ := n_
      (try clear hb)
      (try clear hb2)
      (try clear hk)
      (try clear hi)
      refine hK.out _ _ ⟨(blk_cell BK446.out 0).trans rfl, (blk_cell BK446.out 1).trans rfl, (blk_cell BK447.out 0).trans rfl, (blk_cell BK447.out 1).trans rfl, (blk_cell BK459.out 0).trans rfl, (blk_cell BK459.out 1).trans rfl, (blk_cell BK465.out 0).trans rfl, (blk_cell BK465.out 1).trans rfl, (blk_cell BK471.out 0).trans rfl, (blk_cell BK471.out 1).trans rfl⟩ (fun hHeld => ?_)
      clear hK K
      refine norm_ (a' := ?_) ?_ ?_
      rotate_left
      · show Act.put _ (some 115) _ = _
        simp only [Act.put, List.setIfInBounds_toArray, List.set_cons_zero, List.set_cons_succ, i64_w, i32_w]
        rfl
      refine pure_ (i := 25) (N := some 116) (v := ?_) (a' := ?_) #[true, true, true, true, true, true, true, true, true, true, true, true, true, true, true, true, true, true, true, true, true, true, true, true, true, true, false] rfl rfl (any_of HT_.out (by kernel_rfl)) (fun _ _ _ h => h) (Or.inl ⟨by rfl, ?_⟩) ?_ ?_
      rotate_left
      · intro w'
        go_simp
        with_reducible rfl
      rotate_left
      · exact AP_
      refine pure_ (i := 26) (N := some 4) (v := ?_) (a' := ?_) #[true, true, true, true, true, true, true, true, true, true, true, true, true, true, true, true, true, true, true, true, true, true, true, true, true, true, true] rfl rfl (any_of HT_.out (by kernel_rfl)) (fun _ _ _ h => h) (Or.inl ⟨by rfl, ?_⟩) ?_ ?_
      rotate_left
      · intro w'
        go_simp
        with_reducible rfl
      rotate_left
      · exact AP_
      refine done_ (done_of HT_.out (by kernel_rfl)) ?_
      try go_wp2
      go_ret
      exact ⟨by first | rfl | (simp [errW_none, errW_some] <;> rfl) | (simp [*, errW_none, errW_some] <;> rfl), HB_⟩
/-- THE ONE PURE STATEMENT of warrantorlaw09_ZoneTwo: yours. -/
def warrantorlaw09_ZoneTwo.Pure : Prop := ∀ (a0_0 : Int) (l0_1 : List Int) (a1_0 : Int) (l1_1 : List Int), (Lit.int .i64 a0_0).wf = true → l0_1.length ≤ maxLen → l0_1.length * 8 ≤ 140737488351232 → (∀ x ∈ l0_1, (Lit.int .i64 x).wf = true) → (Lit.int .i64 a1_0).wf = true → l1_1.length ≤ maxLen → l1_1.length * 8 ≤ 140737488351232 → (∀ x ∈ l1_1, (Lit.int .i64 x).wf = true) → ∃ k, warrantorlaw09_ZoneTwo.f k a0_0 l0_1 a1_0 l1_1 = some true
theorem warrantorlaw09_ZoneTwo.walk (P : warrantorlaw09_ZoneTwo.Pure) (a0_0 : Int) (a0_1 : Option Addr) (len0_1 cap0_1 : Nat) (z0_1 : List Int) (a1_0 : Int) (a1_1 : Option Addr) (len1_1 cap1_1 : Nat) (z1_1 : List Int) (w : World) (w0_0 : (Lit.int .i64 a0_0).wf = true) (w0_1 : (a0_1 = none ∧ len0_1 = 0 ∧ cap0_1 = 0 ∧ z0_1 = []) ∨ ∃ x, a0_1 = some x ∧ len0_1 ≤ cap0_1 ∧ cap0_1 ≤ maxLen ∧ z0_1.length = cap0_1 ∧ (∀ i, i < z0_1.length → w.cell? (x.add i) = some (.int .i64 (z0_1.getD i 0))) ∧ ∀ n ∈ z0_1, (Lit.int .i64 n).wf = true) (y0_1 : len0_1 * 8 ≤ 140737488351232) (w1_0 : (Lit.int .i64 a1_0).wf = true) (w1_1 : (a1_1 = none ∧ len1_1 = 0 ∧ cap1_1 = 0 ∧ z1_1 = []) ∨ ∃ x, a1_1 = some x ∧ len1_1 ≤ cap1_1 ∧ cap1_1 ≤ maxLen ∧ z1_1.length = cap1_1 ∧ (∀ i, i < z1_1.length → w.cell? (x.add i) = some (.int .i64 (z1_1.getD i 0))) ∧ ∀ n ∈ z1_1, (Lit.int .i64 n).wf = true) (y1_1 : len1_1 * 8 ≤ 140737488351232) :
    Calls Try.prog 6 #[.agg #[.int .i64 a0_0, .slice a0_1 len0_1 cap0_1], .agg #[.int .i64 a1_0, .slice a1_1 len1_1 cap1_1]] w fun e w' => e = .returned (.bool true) ∧ Below w.heap.size w w' := by
  obtain ⟨l0_1, rfl, hr0_1, hm0_1, hw0_1, hc0_1⟩ := ReadsInt.ofRowC w0_1
  obtain ⟨l1_1, rfl, hr1_1, hm1_1, hw1_1, hc1_1⟩ := ReadsInt.ofRowC w1_1
  obtain ⟨k, h⟩ := P a0_0 l0_1 a1_0 l1_1 w0_0 hm0_1 y0_1 hw0_1 w1_0 hm1_1 y1_1 hw1_1
  refine (warrantorlaw09_ZoneTwo.calls k a0_0 _ _ l0_1 a1_0 _ _ l1_1 true w (Kd.C_of_reads (d := (0 : Int)) (h1 := fun _ => rfl) hr0_1) hc0_1 (Kd.C_of_reads (d := (0 : Int)) (h1 := fun _ => rfl) hr1_1) hc1_1 h).mono ?_
  rintro e w' ⟨rfl, hd⟩
  exact ⟨rfl, hd⟩

end Go.Proofs.Ytgeemdpflcefkaa.Z

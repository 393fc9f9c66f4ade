import Derived.Test.YtpcpbeklaibdfaaCx0
import Derived.Test.YtpcpbeklaibdfaaCx43
namespace Go.Proofs.Ytpcpbeklaibdfaa.C
open Go.RowKit Go.Proofs.YtpcpbeklaibdfaaW.PrintWords Go.Proofs.YtpcpbeklaibdfaaW.PrintLast Go.Proofs.YtpcpbeklaibdfaaW.PrintMore
attribute [local go_sem] max2_int min2_int max_two min_two max_three min_three max_four min_four   -- for this text's walks alone
set_option linter.unusedVariables false
set_option linter.unusedSimpArgs false
def warrantorref13_Step.j0 : Nat → Bool → ByteArray → List ByteArray → List (S53) → List (S57) → Int → List Int → Int → Int → Option (Int × List Int × Int)
 | 0, _, _, _, _, _, _, _, _, _ => none
 | k + 1, x33, x290000, x290001, x290002, x290003, x291000, x291001, x292000, x292001 => if x33 = true then (some (0, ([] : List Int), 1)) else (if 0 ≤ x292000 then (if x292000 < (x290003.length : Int) then ((warrantorref13_Does.f ((rd_T57 x290003 x292000).f2.f0) ((rd_T57 x290003 x292000).f2.f1) ((rd_T57 x290003 x292000).f2.f2) ((rd_T57 x290003 x292000).f2.f3) ((rd_T57 x290003 x292000).f2.f4) x291001 x292001).bind fun bt296 => (if bt296.2 = 0 then (some ((rd_T57 x290003 x292000).f1, bt296.1, 0)) else (some (0, ([] : List Int), bt296.2)))) else (none)) else (none))
def warrantorref13_Step.f (k : Nat) (a0_0 : ByteArray) (l0_1 : List ByteArray) (l0_2 : List (S53)) (l0_3 : List (S57)) (a1_0 : Int) (l1_1 : List Int) (a2_0 : Int) (a2_1 : Int) : Option (Int × List Int × Int) := if a2_0 < 0 then (warrantorref13_Step.j0 k true a0_0 l0_1 l0_2 l0_3 a1_0 l1_1 a2_0 a2_1) else (if a2_0 ≥ (l0_3.length : Int) then (warrantorref13_Step.j0 k true a0_0 l0_1 l0_2 l0_3 a1_0 l1_1 a2_0 a2_1) else (if 0 ≤ a2_0 then (if a2_0 < (l0_3.length : Int) then (warrantorref13_Step.j0 k (((rd_T57 l0_3 a2_0).f0) != a1_0) a0_0 l0_1 l0_2 l0_3 a1_0 l1_1 a2_0 a2_1) else (none)) else (none)))
set_option maxHeartbeats 8000000 in
set_option maxRecDepth 100000 in
theorem warrantorref13_Step.calls (k : Nat) (a0_0 : ByteArray) (A0_1 : Option Addr) (c0_1 : Nat) (l0_1 : List ByteArray) (A0_2 : Option Addr) (c0_2 : Nat) (l0_2 : List (S53)) (A0_3 : Option Addr) (c0_3 : Nat) (l0_3 : List (S57)) (a1_0 : Int) (A1_1 : Option Addr) (c1_1 : Nat) (l1_1 : List Int) (a2_0 : Int) (a2_1 : Int) (r1 : Int) (r2 : List Int) (r3 : Int) (w : World) (hr0_1 : Kd.C Kd.string w A0_1 l0_1.length l0_1) (hc0_1 : l0_1.length ≤ c0_1) (hr0_2 : Kd.C k53 w A0_2 l0_2.length l0_2) (hc0_2 : l0_2.length ≤ c0_2) (hr0_3 : Kd.C k57 w A0_3 l0_3.length l0_3) (hc0_3 : l0_3.length ≤ c0_3) (hr1_1 : Kd.C (Kd.int .i64) w A1_1 l1_1.length l1_1) (hc1_1 : l1_1.length ≤ c1_1) (h : warrantorref13_Step.f k a0_0 l0_1 l0_2 l0_3 a1_0 l1_1 a2_0 a2_1 = some (r1, r2, r3)) :
  Calls Try.prog 14 #[.agg #[.string a0_0, .slice A0_1 l0_1.length c0_1, .slice A0_2 l0_2.length c0_2, .slice A0_3 l0_3.length c0_3], .agg #[.int .i64 a1_0, .slice A1_1 l1_1.length c1_1], .agg #[.int .i64 a2_0, .int .i64 a2_1]] w fun e w' => ∃ v1_ : Value, e = .returned (.tuple #[.agg #[.int .i64 r1, v1_], .int .i64 r3]) ∧ Kd.R (Kd.int .i64) 3 w' w.heap.size (fun _ => True) v1_ r2 ∧ Below w.heap.size w w' := by
 have hu26 := Try.underlying26
 have hu29 := Try.underlying29
 have hu31 := Try.underlying31
 have hu57 := Try.underlying57
 have hu55 := Try.underlying55
 have HR0_1 := Aside0.mk hr0_1
 have HC0_1 := Aside0.mk hc0_1
 clear hr0_1 hc0_1
 have HR0_2 := Aside0.mk hr0_2
 have HC0_2 := Aside0.mk hc0_2
 clear hr0_2 hc0_2
 have HR0_3 := Aside0.mk hr0_3
 have HC0_3 := Aside0.mk hc0_3
 clear hr0_3 hc0_3
 have HR1_1 := Aside0.mk hr1_1
 have HC1_1 := Aside0.mk hc1_1
 clear hr1_1 hc1_1
 have HB := Aside0.mk (Below.refl w.heap.size w)
 have H : (if a2_0 < 0 then (warrantorref13_Step.j0 k true a0_0 l0_1 l0_2 l0_3 a1_0 l1_1 a2_0 a2_1) else (if a2_0 ≥ (l0_3.length : Int) then (warrantorref13_Step.j0 k true a0_0 l0_1 l0_2 l0_3 a1_0 l1_1 a2_0 a2_1) else (if 0 ≤ a2_0 then (if a2_0 < (l0_3.length : Int) then (warrantorref13_Step.j0 k (((rd_T57 l0_3 a2_0).f0) != a1_0) a0_0 l0_1 l0_2 l0_3 a1_0 l1_1 a2_0 a2_1) else (none)) else (none)))) = some (r1, r2, r3) := h
 clear h
 have HC4 := Aside0.mk H
 clear H
 go_enter Try.func14, Try.ntmps14
 go_upto_region 1 with (first | ((with_reducible refine gate_dst (N := 3) rfl ?_); (try (refine gate_guard (by rfl) ?_; dsimp only)); refine bx_ (N := 3) (cs := #[.string a0_0, .slice A0_1 l0_1.length c0_1, .slice A0_2 l0_2.length c0_2, .slice A0_3 l0_3.length c0_3]) (t := 26) ?_; intro gb289 hg w5 hbox hb; have n_ := a_ (bs_ HB hb) (a_ (Aside0.mk hbox) (a_ (gs_ HB hg) (gs_ HB hg))); clear HB; obtain ⟨HB, BK289, GW289, GE289⟩ := n_; clear hb hbox hg) | ((with_reducible refine gate_dst (N := 4) rfl ?_); (try (refine gate_guard (by rfl) ?_; dsimp only)); refine bx_ (N := 4) (cs := #[.int .i64 a1_0, .slice A1_1 l1_1.length c1_1]) (t := 29) ?_; intro gb290 hg w6 hbox hb; have n_ := a_ (bb_ BK289 hb) (a_ (bs_ HB hb) (a_ (Aside0.mk hbox) (a_ (gs_ HB hg) (a_ (gs_ HB hg) (a_ (nl_ BK289 hg) (ng_ BK289 hg)))))); clear BK289 HB; obtain ⟨BK289, HB, BK290, GW290, GE290, NB289_290, NB290_289⟩ := n_; clear hb hbox hg) | ((with_reducible refine gate_dst (N := 5) rfl ?_); (try (refine gate_guard (by rfl) ?_; dsimp only)); refine bx_ (N := 5) (cs := #[.int .i64 a2_0, .int .i64 a2_1]) (t := 31) ?_; intro gb291 hg w7 hbox hb; have n_ := a_ (bb_ BK289 hb) (a_ (bb_ BK290 hb) (a_ (bs_ HB hb) (a_ (Aside0.mk hbox) (a_ (gs_ HB hg) (a_ (gs_ HB hg) (a_ (nl_ BK289 hg) (a_ (ng_ BK289 hg) (a_ (nl_ BK290 hg) (ng_ BK290 hg))))))))); clear BK289 BK290 HB; obtain ⟨BK289, BK290, HB, BK291, GW291, GE291, NB289_291, NB291_289, NB290_291, NB291_290⟩ := n_; clear hb hbox hg) | ((with_reducible refine gate_dst (N := 6) rfl ?_); (try (refine gate_guard (by rfl) ?_; dsimp only)); refine bx_ (N := 6) (cs := #[.int .i64 0, .slice none 0 0]) (t := 29) ?_; intro gb292 hg w8 hbox hb; have n_ := a_ (bb_ BK289 hb) (a_ (bb_ BK290 hb) (a_ (bb_ BK291 hb) (a_ (bs_ HB hb) (a_ (Aside0.mk hbox) (a_ (gs_ HB hg) (a_ (gs_ HB hg) (a_ (nl_ BK289 hg) (a_ (ng_ BK289 hg) (a_ (nl_ BK290 hg) (a_ (ng_ BK290 hg) (a_ (nl_ BK291 hg) (ng_ BK291 hg)))))))))))); clear BK289 BK290 BK291 HB; obtain ⟨BK289, BK290, BK291, HB, BK292, GW292, GE292, NB289_292, NB292_289, NB290_292, NB292_290, NB291_292, NB292_291⟩ := n_; clear hb hbox hg))
 repeat (go_quiet (first | ((with_reducible refine gate_dst (N := 3) rfl ?_); (try (refine gate_guard (by rfl) ?_; dsimp only)); refine bx_ (N := 3) (cs := #[.string a0_0, .slice A0_1 l0_1.length c0_1, .slice A0_2 l0_2.length c0_2, .slice A0_3 l0_3.length c0_3]) (t := 26) ?_; intro gb289 hg w5 hbox hb; have n_ := a_ (bs_ HB hb) (a_ (Aside0.mk hbox) (a_ (gs_ HB hg) (gs_ HB hg))); clear HB; obtain ⟨HB, BK289, GW289, GE289⟩ := n_; clear hb hbox hg) | ((with_reducible refine gate_dst (N := 4) rfl ?_); (try (refine gate_guard (by rfl) ?_; dsimp only)); refine bx_ (N := 4) (cs := #[.int .i64 a1_0, .slice A1_1 l1_1.length c1_1]) (t := 29) ?_; intro gb290 hg w6 hbox hb; have n_ := a_ (bb_ BK289 hb) (a_ (bs_ HB hb) (a_ (Aside0.mk hbox) (a_ (gs_ HB hg) (a_ (gs_ HB hg) (a_ (nl_ BK289 hg) (ng_ BK289 hg)))))); clear BK289 HB; obtain ⟨BK289, HB, BK290, GW290, GE290, NB289_290, NB290_289⟩ := n_; clear hb hbox hg) | ((with_reducible refine gate_dst (N := 5) rfl ?_); (try (refine gate_guard (by rfl) ?_; dsimp only)); refine bx_ (N := 5) (cs := #[.int .i64 a2_0, .int .i64 a2_1]) (t := 31) ?_; intro gb291 hg w7 hbox hb; have n_ := a_ (bb_ BK289 hb) (a_ (bb_ BK290 hb) (a_ (bs_ HB hb) (a_ (Aside0.mk hbox) (a_ (gs_ HB hg) (a_ (gs_ HB hg) (a_ (nl_ BK289 hg) (a_ (ng_ BK289 hg) (a_ (nl_ BK290 hg) (ng_ BK290 hg))))))))); clear BK289 BK290 HB; obtain ⟨BK289, BK290, HB, BK291, GW291, GE291, NB289_291, NB291_289, NB290_291, NB291_290⟩ := n_; clear hb hbox hg) | ((with_reducible refine gate_dst (N := 6) rfl ?_); (try (refine gate_guard (by rfl) ?_; dsimp only)); refine bx_ (N := 6) (cs := #[.int .i64 0, .slice none 0 0]) (t := 29) ?_; intro gb292 hg w8 hbox hb; have n_ := a_ (bb_ BK289 hb) (a_ (bb_ BK290 hb) (a_ (bb_ BK291 hb) (a_ (bs_ HB hb) (a_ (Aside0.mk hbox) (a_ (gs_ HB hg) (a_ (gs_ HB hg) (a_ (nl_ BK289 hg) (a_ (ng_ BK289 hg) (a_ (nl_ BK290 hg) (a_ (ng_ BK290 hg) (a_ (nl_ BK291 hg) (ng_ BK291 hg)))))))))))); clear BK289 BK290 BK291 HB; obtain ⟨BK289, BK290, BK291, HB, BK292, GW292, GE292, NB289_292, NB292_289, NB290_292, NB292_290, NB291_292, NB292_291⟩ := n_; clear hb hbox hg)); go_upto_region 1 with (first | ((with_reducible refine gate_dst (N := 3) rfl ?_); (try (refine gate_guard (by rfl) ?_; dsimp only)); refine bx_ (N := 3) (cs := #[.string a0_0, .slice A0_1 l0_1.length c0_1, .slice A0_2 l0_2.length c0_2, .slice A0_3 l0_3.length c0_3]) (t := 26) ?_; intro gb289 hg w5 hbox hb; have n_ := a_ (bs_ HB hb) (a_ (Aside0.mk hbox) (a_ (gs_ HB hg) (gs_ HB hg))); clear HB; obtain ⟨HB, BK289, GW289, GE289⟩ := n_; clear hb hbox hg) | ((with_reducible refine gate_dst (N := 4) rfl ?_); (try (refine gate_guard (by rfl) ?_; dsimp only)); refine bx_ (N := 4) (cs := #[.int .i64 a1_0, .slice A1_1 l1_1.length c1_1]) (t := 29) ?_; intro gb290 hg w6 hbox hb; have n_ := a_ (bb_ BK289 hb) (a_ (bs_ HB hb) (a_ (Aside0.mk hbox) (a_ (gs_ HB hg) (a_ (gs_ HB hg) (a_ (nl_ BK289 hg) (ng_ BK289 hg)))))); clear BK289 HB; obtain ⟨BK289, HB, BK290, GW290, GE290, NB289_290, NB290_289⟩ := n_; clear hb hbox hg) | ((with_reducible refine gate_dst (N := 5) rfl ?_); (try (refine gate_guard (by rfl) ?_; dsimp only)); refine bx_ (N := 5) (cs := #[.int .i64 a2_0, .int .i64 a2_1]) (t := 31) ?_; intro gb291 hg w7 hbox hb; have n_ := a_ (bb_ BK289 hb) (a_ (bb_ BK290 hb) (a_ (bs_ HB hb) (a_ (Aside0.mk hbox) (a_ (gs_ HB hg) (a_ (gs_ HB hg) (a_ (nl_ BK289 hg) (a_ (ng_ BK289 hg) (a_ (nl_ BK290 hg) (ng_ BK290 hg))))))))); clear BK289 BK290 HB; obtain ⟨BK289, BK290, HB, BK291, GW291, GE291, NB289_291, NB291_289, NB290_291, NB291_290⟩ := n_; clear hb hbox hg) | ((with_reducible refine gate_dst (N := 6) rfl ?_); (try (refine gate_guard (by rfl) ?_; dsimp only)); refine bx_ (N := 6) (cs := #[.int .i64 0, .slice none 0 0]) (t := 29) ?_; intro gb292 hg w8 hbox hb; have n_ := a_ (bb_ BK289 hb) (a_ (bb_ BK290 hb) (a_ (bb_ BK291 hb) (a_ (bs_ HB hb) (a_ (Aside0.mk hbox) (a_ (gs_ HB hg) (a_ (gs_ HB hg) (a_ (nl_ BK289 hg) (a_ (ng_ BK289 hg) (a_ (nl_ BK290 hg) (a_ (ng_ BK290 hg) (a_ (nl_ BK291 hg) (ng_ BK291 hg)))))))))))); clear BK289 BK290 BK291 HB; obtain ⟨BK289, BK290, BK291, HB, BK292, GW292, GE292, NB289_292, NB292_289, NB290_292, NB292_290, NB291_292, NB292_291⟩ := n_; clear hb hbox hg)))
 (try simp only [Act.put, List.setIfInBounds_toArray, List.set_cons_zero, List.set_cons_succ])
 go_cut [33] (fun v33 wc => ∃ (kq : Nat) (x33_3 : Bool), v33 = .bool x33_3 ∧ Aside0 (warrantorref13_Step.j0 kq x33_3 a0_0 l0_1 l0_2 l0_3 a1_0 l1_1 a2_0 a2_1 = some (r1, r2, r3)) ∧ Aside0 (kq ≤ k) ∧ Aside0 (wc.heap[gb289]? = some (.cells #[.string a0_0, (.slice A0_1 l0_1.length c0_1), (.slice A0_2 l0_2.length c0_2), (.slice A0_3 l0_3.length c0_3)] 26 (0, 0))) ∧ Aside0 (wc.heap[gb290]? = some (.cells #[.int .i64 a1_0, (.slice A1_1 l1_1.length c1_1)] 29 (0, 0))) ∧ Aside0 (wc.heap[gb291]? = some (.cells #[.int .i64 a2_0, .int .i64 a2_1] 31 (0, 0))) ∧ Aside0 (wc.heap[gb292]? = some (.cells #[.int .i64 0, (.slice none 0 0)] 29 (0, 0))) ∧ Aside0 (Below w.heap.size w wc))
 case first =>
  have H := HC4.out
  clear HC4
  by_cases c9 : a2_0 < 0
  · rw [if_pos c9] at H
    have c9b0 : decide (a2_0 < 0) = true := decide_eq_true c9
    clear c9
    (first | rw [c9b0] | (simp only [i64_w, i32_w]; rw [c9b0]) | skip)
    have H' := Aside0.mk H
    clear H
    have hnb10 := NB291_289.out
    have hnc10 := NB289_291.out
    have hnb11 := NB291_290.out
    have hnc11 := NB290_291.out
    have hnb12 := NB291_292.out
    have hnc12 := NB292_291.out
    obtain ⟨hcz13_0, hcz13_1, hfz13_0, hfz13_1⟩ := cz2_ BK291
    go_wp2
    repeat (go_quiet (fail); try go_wp2)
    go_meet
    case rel => exact ⟨_, (true), (by first | rfl | (simp; done) | (simp [*]; done)), H', ⟨by first | omega | exact Nat.le_refl _⟩, ⟨by (with_reducible repeat (first | refine blk_drewN ?_ _ | refine blk_drew ?_ | refine blk_alloc ?_ _)); exact BK289.out⟩, ⟨by (with_reducible repeat (first | refine blk_drewN ?_ _ | refine blk_drew ?_ | refine blk_alloc ?_ _)); exact BK290.out⟩, ⟨by (with_reducible repeat (first | refine blk_drewN ?_ _ | refine blk_drew ?_ | refine blk_alloc ?_ _)); exact BK291.out⟩, ⟨by (with_reducible repeat (first | refine blk_drewN ?_ _ | refine blk_drew ?_ | refine blk_alloc ?_ _)); exact BK292.out⟩, ⟨HB_⟩⟩
  rw [if_neg c9] at H
  have c9b0 : decide (a2_0 < 0) = false := decide_eq_false c9
  clear c9
  (first | rw [c9b0] | (simp only [i64_w, i32_w]; rw [c9b0]) | skip)
  by_cases c14 : a2_0 ≥ (l0_3.length : Int)
  · rw [if_pos c14] at H
    have c14b0 : decide ((l0_3.length : Int) ≤ a2_0) = true := decide_eq_true c14
    clear c14
    have H' := Aside0.mk H
    clear H
    have hnb15 := NB291_289.out
    have hnc15 := NB289_291.out
    have hnb16 := NB291_290.out
    have hnc16 := NB290_291.out
    have hnb17 := NB291_292.out
    have hnc17 := NB292_291.out
    obtain ⟨hcz18_0, hcz18_1, hfz18_0, hfz18_1⟩ := cz2_ BK291
    have hnb19 := NB289_290.out
    have hnc19 := NB290_289.out
    have hnb20 := NB289_292.out
    have hnc20 := NB292_289.out
    obtain ⟨hcz21_0, hcz21_1, hcz21_2, hcz21_3, hfz21_0, hfz21_1, hfz21_2, hfz21_3⟩ := cz4_ BK289
    go_wp2
    repeat (go_quiet (fail); try go_wp2)
    go_meet
    case rel => exact ⟨_, (true), (by first | rfl | (simp; done) | (simp [*]; done)), H', ⟨by first | omega | exact Nat.le_refl _⟩, ⟨by (with_reducible repeat (first | refine blk_drewN ?_ _ | refine blk_drew ?_ | refine blk_alloc ?_ _)); exact BK289.out⟩, ⟨by (with_reducible repeat (first | refine blk_drewN ?_ _ | refine blk_drew ?_ | refine blk_alloc ?_ _)); exact BK290.out⟩, ⟨by (with_reducible repeat (first | refine blk_drewN ?_ _ | refine blk_drew ?_ | refine blk_alloc ?_ _)); exact BK291.out⟩, ⟨by (with_reducible repeat (first | refine blk_drewN ?_ _ | refine blk_drew ?_ | refine blk_alloc ?_ _)); exact BK292.out⟩, ⟨HB_⟩⟩
  rw [if_neg c14] at H
  have c14b0 : decide ((l0_3.length : Int) ≤ a2_0) = false := decide_eq_false c14
  clear c14
  replace H := yes_ H
  obtain ⟨c22, H⟩ := H
  have c22b0 : decide (0 ≤ a2_0) = true := decide_eq_true c22
  clear c22
  replace H := yes_ H
  obtain ⟨c23, H⟩ := H
  have c23b0 : decide (a2_0 < (l0_3.length : Int)) = true := decide_eq_true c23
  clear c23
  have H' := Aside0.mk H
  clear H
  have hnb24 := NB291_289.out
  have hnc24 := NB289_291.out
  have hnb25 := NB291_290.out
  have hnc25 := NB290_291.out
  have hnb26 := NB291_292.out
  have hnc26 := NB292_291.out
  obtain ⟨hcz27_0, hcz27_1, hfz27_0, hfz27_1⟩ := cz2_ BK291
  have hnb28 := NB289_290.out
  have hnc28 := NB290_289.out
  have hnb29 := NB289_292.out
  have hnc29 := NB292_289.out
  obtain ⟨hcz30_0, hcz30_1, hcz30_2, hcz30_3, hfz30_0, hfz30_1, hfz30_2, hfz30_3⟩ := cz4_ BK289
  have p293 : 0 ≤ (a2_0 : Int) := of_decide_eq_true (by first | (with_reducible assumption) | assumption)
  have q293 : a2_0 < (l0_3.length : Int) := of_decide_eq_true (by first | (with_reducible assumption) | assumption)
  obtain ⟨ad293, e293, hx293_0, hx293_1, hx293_2, hx293_3, hx293_4, hx293_5, hx293_6⟩ := at_T57 HR0_3.out a2_0 p293 q293
  cases e293
  first | (replace hx293_0 := (HB.out.cell (World.block_lt_of_cell? w _ hx293_0)).trans hx293_0) | skip
  first | (replace hx293_1 := (HB.out.cell (World.block_lt_of_cell? w _ hx293_1)).trans hx293_1) | skip
  first | (replace hx293_2 := (HB.out.cell (World.block_lt_of_cell? w _ hx293_2)).trans hx293_2) | skip
  first | (replace hx293_3 := (HB.out.cell (World.block_lt_of_cell? w _ hx293_3)).trans hx293_3) | skip
  first | (replace hx293_4 := (HB.out.cell (World.block_lt_of_cell? w _ hx293_4)).trans hx293_4) | skip
  first | (replace hx293_5 := (HB.out.cell (World.block_lt_of_cell? w _ hx293_5)).trans hx293_5) | skip
  first | (replace hx293_6 := (HB.out.cell (World.block_lt_of_cell? w _ hx293_6)).trans hx293_6) | skip
  replace p293 := eq_true p293
  replace q293 := eq_true q293
  have hnb31 := NB290_292.out
  have hnc31 := NB292_290.out
  obtain ⟨hcz32_0, hcz32_1, hfz32_0, hfz32_1⟩ := cz2_ BK290
  go_wp2
  repeat (go_quiet (fail); try go_wp2)
  go_meet
  case rel => exact ⟨_, ((((rd_T57 l0_3 a2_0).f0) != a1_0)), (by first | rfl | (simp; done) | (simp [*]; done)), H', ⟨by first | omega | exact Nat.le_refl _⟩, ⟨by (with_reducible repeat (first | refine blk_drewN ?_ _ | refine blk_drew ?_ | refine blk_alloc ?_ _)); exact BK289.out⟩, ⟨by (with_reducible repeat (first | refine blk_drewN ?_ _ | refine blk_drew ?_ | refine blk_alloc ?_ _)); exact BK290.out⟩, ⟨by (with_reducible repeat (first | refine blk_drewN ?_ _ | refine blk_drew ?_ | refine blk_alloc ?_ _)); exact BK291.out⟩, ⟨by (with_reducible repeat (first | refine blk_drewN ?_ _ | refine blk_drew ?_ | refine blk_alloc ?_ _)); exact BK292.out⟩, ⟨HB_⟩⟩
 case rest =>
  clear HC4
  try clear c1
  try clear c2
  try clear p2
  try clear q2
  try clear hx2
  try clear c3
  try clear c9
  try clear c9b0
  try clear c10
  try clear c11
  try clear c12
  try clear c14
  try clear c14b0
  try clear c15
  try clear c16
  try clear c17
  try clear c19
  try clear c20
  try clear c22
  try clear c22b0
  try clear c23
  try clear c23b0
  try clear c24
  try clear c25
  try clear c26
  try clear c28
  try clear c29
  try clear p29
  try clear q29
  try clear hx29
  try clear c31
  try clear hcz13_0
  try clear hcz13_1
  try clear hcz18_0
  try clear hcz18_1
  try clear hcz21_0
  try clear hcz21_1
  try clear hcz21_2
  try clear hcz21_3
  try clear hcz27_0
  try clear hcz27_1
  try clear hcz30_0
  try clear hcz30_1
  try clear hcz30_2
  try clear hcz30_3
  try clear hcz32_0
  try clear hcz32_1
  try clear hfz13_0
  try clear hfz13_1
  try clear hfz18_0
  try clear hfz18_1
  try clear hfz21_0
  try clear hfz21_1
  try clear hfz21_2
  try clear hfz21_3
  try clear hfz27_0
  try clear hfz27_1
  try clear hfz30_0
  try clear hfz30_1
  try clear hfz30_2
  try clear hfz30_3
  try clear hfz32_0
  try clear hfz32_1
  try clear hx293_0
  try clear hx293_1
  try clear hx293_2
  try clear hx293_3
  try clear hx293_4
  try clear hx293_5
  try clear hx293_6
  try clear p293
  try clear q293
  obtain ⟨kq, x33_3, rfl, HA, HJ3, BK289, BK290, BK291, BK292, HB⟩ := hcut
  cases kq with
  | zero => exact absurd HA.out (by simp [warrantorref13_Step.j0])
  | succ kj3 =>
    have H := HA.out
    clear HA
    simp only [warrantorref13_Step.j0] at H
    by_cases c33 : x33_3 = true
    · subst c33
      have H1 : (some (0, ([] : List Int), 1)) = some (r1, r2, r3) := by rw [if_pos rfl] at H; exact H
      clear H
      have H := H1
      clear H1
      simp only [Option.some.injEq, Prod.mk.injEq] at H
      obtain ⟨rfl, rfl, rfl⟩ := H
      have hnb34 := NB292_289.out
      have hnc34 := NB289_292.out
      have hnb35 := NB292_290.out
      have hnc35 := NB290_292.out
      have hnb36 := NB292_291.out
      have hnc36 := NB291_292.out
      obtain ⟨hcz37_0, hcz37_1, hfz37_0, hfz37_1⟩ := cz2_ BK292
      go_wp2
      repeat (go_quiet (fail); try go_wp2)
      refine bodyPost_ret (results_ct rfl _ _ gb292 29 #[.int .i64 0, .slice none 0 0] (0, 0) _ rfl (bk2_ BK292.out) Try.underlying29 rfl (by kernel_rfl)) rfl ?_
      exact ⟨_, by first | rfl | (simp [errW_none, errW_some] <;> rfl) | (simp [*, errW_none, errW_some] <;> rfl), by first | exact Kd.R_nil _ _ _ _ _ | exact Kd.N_nil _ _ _ _ _ | exact Kd.V_nil _ _ _ _ _ | exact Kd.Q_nil _ _ _ _ _ | exact Kd.S_nil _ _ _ _ _, HB_⟩
    replace c33 := Bool.eq_false_iff.mpr c33
    subst c33
    have H1 : (if 0 ≤ a2_0 then (if a2_0 < (l0_3.length : Int) then ((warrantorref13_Does.f ((rd_T57 l0_3 a2_0).f2.f0) ((rd_T57 l0_3 a2_0).f2.f1) ((rd_T57 l0_3 a2_0).f2.f2) ((rd_T57 l0_3 a2_0).f2.f3) ((rd_T57 l0_3 a2_0).f2.f4) l1_1 a2_1).bind fun bt296 => (if bt296.2 = 0 then (some ((rd_T57 l0_3 a2_0).f1, bt296.1, 0)) else (some (0, ([] : List Int), bt296.2)))) else (none)) else (none)) = some (r1, r2, r3) := by rw [if_neg (show ¬ (false = true) by decide)] at H; exact H
    clear H
    have H := H1
    clear H1
    replace H := yes_ H
    obtain ⟨c38, H⟩ := H
    have c38b0 : decide (0 ≤ a2_0) = true := decide_eq_true c38
    clear c38
    replace H := yes_ H
    obtain ⟨c39, H⟩ := H
    have c39b0 : decide (a2_0 < (l0_3.length : Int)) = true := decide_eq_true c39
    clear c39
    replace H := Option.bind_eq_some_iff.mp H
    obtain ⟨⟨t296, t299⟩, A400, H⟩ := H
    replace H : (if t299 = 0 then (some ((rd_T57 l0_3 a2_0).f1, t296, 0)) else (some (0, ([] : List Int), t299))) = some (r1, r2, r3) := H
    have A40 := Aside0.mk A400
    clear A400
    by_cases c41 : t299 = 0
    rotate_left
    · rw [if_neg c41] at H
      have c41b0 : (t299 == 0) = false := beq_eq_false_iff_ne.mpr c41
      have c41b1 : (t299 != 0) = true := bne_iff_ne.mpr c41
      simp only [Option.some.injEq, Prod.mk.injEq] at H
      obtain ⟨rfl, rfl, rfl⟩ := H
      have hnb62 := NB289_290.out
      have hnc62 := NB290_289.out
      have hnb63 := NB289_291.out
      have hnc63 := NB291_289.out
      have hnb64 := NB289_292.out
      have hnc64 := NB292_289.out
      obtain ⟨hcz65_0, hcz65_1, hcz65_2, hcz65_3, hfz65_0, hfz65_1, hfz65_2, hfz65_3⟩ := cz4_ BK289
      have hnb66 := NB291_290.out
      have hnc66 := NB290_291.out
      have hnb67 := NB291_292.out
      have hnc67 := NB292_291.out
      obtain ⟨hcz68_0, hcz68_1, hfz68_0, hfz68_1⟩ := cz2_ BK291
      have p294 : 0 ≤ (a2_0 : Int) := of_decide_eq_true (by first | (with_reducible assumption) | assumption)
      have q294 : a2_0 < (l0_3.length : Int) := of_decide_eq_true (by first | (with_reducible assumption) | assumption)
      obtain ⟨ad294, e294, hx294_0, hx294_1, hx294_2, hx294_3, hx294_4, hx294_5, hx294_6⟩ := at_T57 HR0_3.out a2_0 p294 q294
      cases e294
      first | (replace hx294_0 := (HB.out.cell (World.block_lt_of_cell? w _ hx294_0)).trans hx294_0) | skip
      first | (replace hx294_1 := (HB.out.cell (World.block_lt_of_cell? w _ hx294_1)).trans hx294_1) | skip
      first | (replace hx294_2 := (HB.out.cell (World.block_lt_of_cell? w _ hx294_2)).trans hx294_2) | skip
      first | (replace hx294_3 := (HB.out.cell (World.block_lt_of_cell? w _ hx294_3)).trans hx294_3) | skip
      first | (replace hx294_4 := (HB.out.cell (World.block_lt_of_cell? w _ hx294_4)).trans hx294_4) | skip
      first | (replace hx294_5 := (HB.out.cell (World.block_lt_of_cell? w _ hx294_5)).trans hx294_5) | skip
      first | (replace hx294_6 := (HB.out.cell (World.block_lt_of_cell? w _ hx294_6)).trans hx294_6) | skip
      replace p294 := eq_true p294
      replace q294 := eq_true q294
      go_wp2_with (first | ((with_reducible refine gate_dst (N := 8) rfl ?_); (try (refine gate_guard (by rfl) ?_; dsimp only)); refine bx_ (N := 8) (cs := #[.int .i64 0, .int .i64 0, .int .i64 0, .int .i64 0, .int .i64 0, .int .i64 0, .int .i64 0]) (t := 57) ?_; intro gb295 hg w69 hbox hb; have n_ := a_ (bb_ BK289 hb) (a_ (bb_ BK290 hb) (a_ (bb_ BK291 hb) (a_ (bb_ BK292 hb) (a_ (bs_ HB hb) (a_ (Aside0.mk hbox) (a_ (gs_ HB hg) (a_ (gs_ HB hg) (a_ (nl_ BK289 hg) (a_ (ng_ BK289 hg) (a_ (nl_ BK290 hg) (a_ (ng_ BK290 hg) (a_ (nl_ BK291 hg) (a_ (ng_ BK291 hg) (a_ (nl_ BK292 hg) (ng_ BK292 hg))))))))))))))); clear BK289 BK290 BK291 BK292 HB; obtain ⟨BK289, BK290, BK291, BK292, HB, BK295, GW295, GE295, NB289_295, NB295_289, NB290_295, NB295_290, NB291_295, NB295_291, NB292_295, NB295_292⟩ := n_; clear hb hbox hg; have hnb70 := NB295_289.out; have hnc70 := NB289_295.out; have hnb71 := NB295_290.out; have hnc71 := NB290_295.out; have hnb72 := NB295_291.out; have hnc72 := NB291_295.out; have hnb73 := NB295_292.out; have hnc73 := NB292_295.out; have hcz74_0 : w69.cell? ⟨gb295, 0, none⟩ = some (.int .i64 0) := (blk_cell BK295.out 0).trans rfl; have hcz74_1 : w69.cell? ⟨gb295, 1, none⟩ = some (.int .i64 0) := (blk_cell BK295.out 1).trans rfl; have hcz74_2 : w69.cell? ⟨gb295, 2, none⟩ = some (.int .i64 0) := (blk_cell BK295.out 2).trans rfl; have hcz74_3 : w69.cell? ⟨gb295, 3, none⟩ = some (.int .i64 0) := (blk_cell BK295.out 3).trans rfl; have hcz74_4 : w69.cell? ⟨gb295, 4, none⟩ = some (.int .i64 0) := (blk_cell BK295.out 4).trans rfl; have hcz74_5 : w69.cell? ⟨gb295, 5, none⟩ = some (.int .i64 0) := (blk_cell BK295.out 5).trans rfl; have hcz74_6 : w69.cell? ⟨gb295, 6, none⟩ = some (.int .i64 0) := (blk_cell BK295.out 6).trans rfl; have hfz74_0 := blk_frozen BK295.out 0; have hfz74_1 := blk_frozen BK295.out 1; have hfz74_2 := blk_frozen BK295.out 2; have hfz74_3 := blk_frozen BK295.out 3; have hfz74_4 := blk_frozen BK295.out 4; have hfz74_5 := blk_frozen BK295.out 5; have hfz74_6 := blk_frozen BK295.out 6; have hnb75 := NB290_292.out; have hnc75 := NB292_290.out; obtain ⟨hcz76_0, hcz76_1, hfz76_0, hfz76_1⟩ := cz2_ BK290; obtain ⟨hcz77_0, hcz77_1, hfz77_0, hfz77_1⟩ := cz2_ BK291) | (go_at_call 29; (with_reducible refine (warrantorref13_Does.calls ((rd_T57 l0_3 a2_0).f2.f0) ((rd_T57 l0_3 a2_0).f2.f1) ((rd_T57 l0_3 a2_0).f2.f2) ((rd_T57 l0_3 a2_0).f2.f3) ((rd_T57 l0_3 a2_0).f2.f4) _ _ l1_1 a2_1 t296 t299 _ ?side1 ?side2 A40.out).mono ?_); (case side1 => exact Kd.C_below HR1_1.out HB_); (case side2 => exact HC1_1.out); rintro e w78 ⟨v297, rfl, ho0, hb⟩; have n_ := a_ (Aside0.mk (Kd.R_lower ho0 (below_size HB_))) (a_ (bc_ #[.string a0_0, .slice A0_1 l0_1.length c0_1, .slice A0_2 l0_2.length c0_2, .slice (some ad294) l0_3.length c0_3] 26 BK289 hb) (a_ (bc_ #[.int .i64 a1_0, .slice A1_1 l1_1.length c1_1] 29 BK290 hb) (a_ (bc_ #[.int .i64 a2_0, .int .i64 a2_1] 31 BK291 hb) (a_ (bc_ #[.int .i64 0, .slice none 0 0] 29 BK292 hb) (a_ (bc_ #[.int .i64 ((rd_T57 l0_3 a2_0).f0), .int .i64 ((rd_T57 l0_3 a2_0).f1), .int .i64 ((rd_T57 l0_3 a2_0).f2.f0), .int .i64 ((rd_T57 l0_3 a2_0).f2.f1), .int .i64 ((rd_T57 l0_3 a2_0).f2.f2), .int .i64 ((rd_T57 l0_3 a2_0).f2.f3), .int .i64 ((rd_T57 l0_3 a2_0).f2.f4)] 57 BK295 hb) (bs_ HB hb)))))); clear BK289 BK290 BK291 BK292 BK295 HB; obtain ⟨HO298, BK289, BK290, BK291, BK292, BK295, HB⟩ := n_; (try clear hb); (try clear hb2); (try clear hk); (try clear hi); (try clear ho0); obtain ⟨hcz79_0, hcz79_1, hfz79_0, hfz79_1⟩ := cz2_ BK292))
      repeat (go_quiet (first | ((with_reducible refine gate_dst (N := 8) rfl ?_); (try (refine gate_guard (by rfl) ?_; dsimp only)); refine bx_ (N := 8) (cs := #[.int .i64 0, .int .i64 0, .int .i64 0, .int .i64 0, .int .i64 0, .int .i64 0, .int .i64 0]) (t := 57) ?_; intro gb295 hg w69 hbox hb; have n_ := a_ (bb_ BK289 hb) (a_ (bb_ BK290 hb) (a_ (bb_ BK291 hb) (a_ (bb_ BK292 hb) (a_ (bs_ HB hb) (a_ (Aside0.mk hbox) (a_ (gs_ HB hg) (a_ (gs_ HB hg) (a_ (nl_ BK289 hg) (a_ (ng_ BK289 hg) (a_ (nl_ BK290 hg) (a_ (ng_ BK290 hg) (a_ (nl_ BK291 hg) (a_ (ng_ BK291 hg) (a_ (nl_ BK292 hg) (ng_ BK292 hg))))))))))))))); clear BK289 BK290 BK291 BK292 HB; obtain ⟨BK289, BK290, BK291, BK292, HB, BK295, GW295, GE295, NB289_295, NB295_289, NB290_295, NB295_290, NB291_295, NB295_291, NB292_295, NB295_292⟩ := n_; clear hb hbox hg; have hnb70 := NB295_289.out; have hnc70 := NB289_295.out; have hnb71 := NB295_290.out; have hnc71 := NB290_295.out; have hnb72 := NB295_291.out; have hnc72 := NB291_295.out; have hnb73 := NB295_292.out; have hnc73 := NB292_295.out; have hcz74_0 : w69.cell? ⟨gb295, 0, none⟩ = some (.int .i64 0) := (blk_cell BK295.out 0).trans rfl; have hcz74_1 : w69.cell? ⟨gb295, 1, none⟩ = some (.int .i64 0) := (blk_cell BK295.out 1).trans rfl; have hcz74_2 : w69.cell? ⟨gb295, 2, none⟩ = some (.int .i64 0) := (blk_cell BK295.out 2).trans rfl; have hcz74_3 : w69.cell? ⟨gb295, 3, none⟩ = some (.int .i64 0) := (blk_cell BK295.out 3).trans rfl; have hcz74_4 : w69.cell? ⟨gb295, 4, none⟩ = some (.int .i64 0) := (blk_cell BK295.out 4).trans rfl; have hcz74_5 : w69.cell? ⟨gb295, 5, none⟩ = some (.int .i64 0) := (blk_cell BK295.out 5).trans rfl; have hcz74_6 : w69.cell? ⟨gb295, 6, none⟩ = some (.int .i64 0) := (blk_cell BK295.out 6).trans rfl; have hfz74_0 := blk_frozen BK295.out 0; have hfz74_1 := blk_frozen BK295.out 1; have hfz74_2 := blk_frozen BK295.out 2; have hfz74_3 := blk_frozen BK295.out 3; have hfz74_4 := blk_frozen BK295.out 4; have hfz74_5 := blk_frozen BK295.out 5; have hfz74_6 := blk_frozen BK295.out 6; have hnb75 := NB290_292.out; have hnc75 := NB292_290.out; obtain ⟨hcz76_0, hcz76_1, hfz76_0, hfz76_1⟩ := cz2_ BK290; obtain ⟨hcz77_0, hcz77_1, hfz77_0, hfz77_1⟩ := cz2_ BK291) | (go_at_call 29; (with_reducible refine (warrantorref13_Does.calls ((rd_T57 l0_3 a2_0).f2.f0) ((rd_T57 l0_3 a2_0).f2.f1) ((rd_T57 l0_3 a2_0).f2.f2) ((rd_T57 l0_3 a2_0).f2.f3) ((rd_T57 l0_3 a2_0).f2.f4) _ _ l1_1 a2_1 t296 t299 _ ?side1 ?side2 A40.out).mono ?_); (case side1 => exact Kd.C_below HR1_1.out HB_); (case side2 => exact HC1_1.out); rintro e w78 ⟨v297, rfl, ho0, hb⟩; have n_ := a_ (Aside0.mk (Kd.R_lower ho0 (below_size HB_))) (a_ (bc_ #[.string a0_0, .slice A0_1 l0_1.length c0_1, .slice A0_2 l0_2.length c0_2, .slice (some ad294) l0_3.length c0_3] 26 BK289 hb) (a_ (bc_ #[.int .i64 a1_0, .slice A1_1 l1_1.length c1_1] 29 BK290 hb) (a_ (bc_ #[.int .i64 a2_0, .int .i64 a2_1] 31 BK291 hb) (a_ (bc_ #[.int .i64 0, .slice none 0 0] 29 BK292 hb) (a_ (bc_ #[.int .i64 ((rd_T57 l0_3 a2_0).f0), .int .i64 ((rd_T57 l0_3 a2_0).f1), .int .i64 ((rd_T57 l0_3 a2_0).f2.f0), .int .i64 ((rd_T57 l0_3 a2_0).f2.f1), .int .i64 ((rd_T57 l0_3 a2_0).f2.f2), .int .i64 ((rd_T57 l0_3 a2_0).f2.f3), .int .i64 ((rd_T57 l0_3 a2_0).f2.f4)] 57 BK295 hb) (bs_ HB hb)))))); clear BK289 BK290 BK291 BK292 BK295 HB; obtain ⟨HO298, BK289, BK290, BK291, BK292, BK295, HB⟩ := n_; (try clear hb); (try clear hb2); (try clear hk); (try clear hi); (try clear ho0); obtain ⟨hcz79_0, hcz79_1, hfz79_0, hfz79_1⟩ := cz2_ BK292)); try go_wp2_with (first | ((with_reducible refine gate_dst (N := 8) rfl ?_); (try (refine gate_guard (by rfl) ?_; dsimp only)); refine bx_ (N := 8) (cs := #[.int .i64 0, .int .i64 0, .int .i64 0, .int .i64 0, .int .i64 0, .int .i64 0, .int .i64 0]) (t := 57) ?_; intro gb295 hg w69 hbox hb; have n_ := a_ (bb_ BK289 hb) (a_ (bb_ BK290 hb) (a_ (bb_ BK291 hb) (a_ (bb_ BK292 hb) (a_ (bs_ HB hb) (a_ (Aside0.mk hbox) (a_ (gs_ HB hg) (a_ (gs_ HB hg) (a_ (nl_ BK289 hg) (a_ (ng_ BK289 hg) (a_ (nl_ BK290 hg) (a_ (ng_ BK290 hg) (a_ (nl_ BK291 hg) (a_ (ng_ BK291 hg) (a_ (nl_ BK292 hg) (ng_ BK292 hg))))))))))))))); clear BK289 BK290 BK291 BK292 HB; obtain ⟨BK289, BK290, BK291, BK292, HB, BK295, GW295, GE295, NB289_295, NB295_289, NB290_295, NB295_290, NB291_295, NB295_291, NB292_295, NB295_292⟩ := n_; clear hb hbox hg; have hnb70 := NB295_289.out; have hnc70 := NB289_295.out; have hnb71 := NB295_290.out; have hnc71 := NB290_295.out; have hnb72 := NB295_291.out; have hnc72 := NB291_295.out; have hnb73 := NB295_292.out; have hnc73 := NB292_295.out; have hcz74_0 : w69.cell? ⟨gb295, 0, none⟩ = some (.int .i64 0) := (blk_cell BK295.out 0).trans rfl; have hcz74_1 : w69.cell? ⟨gb295, 1, none⟩ = some (.int .i64 0) := (blk_cell BK295.out 1).trans rfl; have hcz74_2 : w69.cell? ⟨gb295, 2, none⟩ = some (.int .i64 0) := (blk_cell BK295.out 2).trans rfl; have hcz74_3 : w69.cell? ⟨gb295, 3, none⟩ = some (.int .i64 0) := (blk_cell BK295.out 3).trans rfl; have hcz74_4 : w69.cell? ⟨gb295, 4, none⟩ = some (.int .i64 0) := (blk_cell BK295.out 4).trans rfl; have hcz74_5 : w69.cell? ⟨gb295, 5, none⟩ = some (.int .i64 0) := (blk_cell BK295.out 5).trans rfl; have hcz74_6 : w69.cell? ⟨gb295, 6, none⟩ = some (.int .i64 0) := (blk_cell BK295.out 6).trans rfl; have hfz74_0 := blk_frozen BK295.out 0; have hfz74_1 := blk_frozen BK295.out 1; have hfz74_2 := blk_frozen BK295.out 2; have hfz74_3 := blk_frozen BK295.out 3; have hfz74_4 := blk_frozen BK295.out 4; have hfz74_5 := blk_frozen BK295.out 5; have hfz74_6 := blk_frozen BK295.out 6; have hnb75 := NB290_292.out; have hnc75 := NB292_290.out; obtain ⟨hcz76_0, hcz76_1, hfz76_0, hfz76_1⟩ := cz2_ BK290; obtain ⟨hcz77_0, hcz77_1, hfz77_0, hfz77_1⟩ := cz2_ BK291) | (go_at_call 29; (with_reducible refine (warrantorref13_Does.calls ((rd_T57 l0_3 a2_0).f2.f0) ((rd_T57 l0_3 a2_0).f2.f1) ((rd_T57 l0_3 a2_0).f2.f2) ((rd_T57 l0_3 a2_0).f2.f3) ((rd_T57 l0_3 a2_0).f2.f4) _ _ l1_1 a2_1 t296 t299 _ ?side1 ?side2 A40.out).mono ?_); (case side1 => exact Kd.C_below HR1_1.out HB_); (case side2 => exact HC1_1.out); rintro e w78 ⟨v297, rfl, ho0, hb⟩; have n_ := a_ (Aside0.mk (Kd.R_lower ho0 (below_size HB_))) (a_ (bc_ #[.string a0_0, .slice A0_1 l0_1.length c0_1, .slice A0_2 l0_2.length c0_2, .slice (some ad294) l0_3.length c0_3] 26 BK289 hb) (a_ (bc_ #[.int .i64 a1_0, .slice A1_1 l1_1.length c1_1] 29 BK290 hb) (a_ (bc_ #[.int .i64 a2_0, .int .i64 a2_1] 31 BK291 hb) (a_ (bc_ #[.int .i64 0, .slice none 0 0] 29 BK292 hb) (a_ (bc_ #[.int .i64 ((rd_T57 l0_3 a2_0).f0), .int .i64 ((rd_T57 l0_3 a2_0).f1), .int .i64 ((rd_T57 l0_3 a2_0).f2.f0), .int .i64 ((rd_T57 l0_3 a2_0).f2.f1), .int .i64 ((rd_T57 l0_3 a2_0).f2.f2), .int .i64 ((rd_T57 l0_3 a2_0).f2.f3), .int .i64 ((rd_T57 l0_3 a2_0).f2.f4)] 57 BK295 hb) (bs_ HB hb)))))); clear BK289 BK290 BK291 BK292 BK295 HB; obtain ⟨HO298, BK289, BK290, BK291, BK292, BK295, HB⟩ := n_; (try clear hb); (try clear hb2); (try clear hk); (try clear hi); (try clear ho0); obtain ⟨hcz79_0, hcz79_1, hfz79_0, hfz79_1⟩ := cz2_ BK292)))
      refine bodyPost_ret (results_ct rfl _ _ gb292 29 #[.int .i64 0, .slice none 0 0] (0, 0) _ rfl (bk2_ BK292.out) Try.underlying29 rfl (by kernel_rfl)) rfl ?_
      exact ⟨_, by first | rfl | (simp [errW_none, errW_some] <;> rfl) | (simp [*, errW_none, errW_some] <;> rfl), by first | exact Kd.R_nil _ _ _ _ _ | exact Kd.N_nil _ _ _ _ _ | exact Kd.V_nil _ _ _ _ _ | exact Kd.Q_nil _ _ _ _ _ | exact Kd.S_nil _ _ _ _ _, HB_⟩
    rw [if_pos c41] at H
    have c41b0 : (t299 == 0) = true := beq_iff_eq.mpr c41
    have c41b1 : (t299 != 0) = false := bne_eq_false_iff_eq.mpr c41
    clear c41
    simp only [Option.some.injEq, Prod.mk.injEq] at H
    obtain ⟨rfl, rfl, rfl⟩ := H
    have hnb42 := NB289_290.out
    have hnc42 := NB290_289.out
    have hnb43 := NB289_291.out
    have hnc43 := NB291_289.out
    have hnb44 := NB289_292.out
    have hnc44 := NB292_289.out
    obtain ⟨hcz45_0, hcz45_1, hcz45_2, hcz45_3, hfz45_0, hfz45_1, hfz45_2, hfz45_3⟩ := cz4_ BK289
    have hnb46 := NB291_290.out
    have hnc46 := NB290_291.out
    have hnb47 := NB291_292.out
    have hnc47 := NB292_291.out
    obtain ⟨hcz48_0, hcz48_1, hfz48_0, hfz48_1⟩ := cz2_ BK291
    have p294 : 0 ≤ (a2_0 : Int) := of_decide_eq_true (by first | (with_reducible assumption) | assumption)
    have q294 : a2_0 < (l0_3.length : Int) := of_decide_eq_true (by first | (with_reducible assumption) | assumption)
    obtain ⟨ad294, e294, hx294_0, hx294_1, hx294_2, hx294_3, hx294_4, hx294_5, hx294_6⟩ := at_T57 HR0_3.out a2_0 p294 q294
    cases e294
    first | (replace hx294_0 := (HB.out.cell (World.block_lt_of_cell? w _ hx294_0)).trans hx294_0) | skip
    first | (replace hx294_1 := (HB.out.cell (World.block_lt_of_cell? w _ hx294_1)).trans hx294_1) | skip
    first | (replace hx294_2 := (HB.out.cell (World.block_lt_of_cell? w _ hx294_2)).trans hx294_2) | skip
    first | (replace hx294_3 := (HB.out.cell (World.block_lt_of_cell? w _ hx294_3)).trans hx294_3) | skip
    first | (replace hx294_4 := (HB.out.cell (World.block_lt_of_cell? w _ hx294_4)).trans hx294_4) | skip
    first | (replace hx294_5 := (HB.out.cell (World.block_lt_of_cell? w _ hx294_5)).trans hx294_5) | skip
    first | (replace hx294_6 := (HB.out.cell (World.block_lt_of_cell? w _ hx294_6)).trans hx294_6) | skip
    replace p294 := eq_true p294
    replace q294 := eq_true q294
    go_wp2_with (first | ((with_reducible refine gate_dst (N := 8) rfl ?_); (try (refine gate_guard (by rfl) ?_; dsimp only)); refine bx_ (N := 8) (cs := #[.int .i64 0, .int .i64 0, .int .i64 0, .int .i64 0, .int .i64 0, .int .i64 0, .int .i64 0]) (t := 57) ?_; intro gb295 hg w49 hbox hb; have n_ := a_ (bb_ BK289 hb) (a_ (bb_ BK290 hb) (a_ (bb_ BK291 hb) (a_ (bb_ BK292 hb) (a_ (bs_ HB hb) (a_ (Aside0.mk hbox) (a_ (gs_ HB hg) (a_ (gs_ HB hg) (a_ (nl_ BK289 hg) (a_ (ng_ BK289 hg) (a_ (nl_ BK290 hg) (a_ (ng_ BK290 hg) (a_ (nl_ BK291 hg) (a_ (ng_ BK291 hg) (a_ (nl_ BK292 hg) (ng_ BK292 hg))))))))))))))); clear BK289 BK290 BK291 BK292 HB; obtain ⟨BK289, BK290, BK291, BK292, HB, BK295, GW295, GE295, NB289_295, NB295_289, NB290_295, NB295_290, NB291_295, NB295_291, NB292_295, NB295_292⟩ := n_; clear hb hbox hg; have hnb50 := NB295_289.out; have hnc50 := NB289_295.out; have hnb51 := NB295_290.out; have hnc51 := NB290_295.out; have hnb52 := NB295_291.out; have hnc52 := NB291_295.out; have hnb53 := NB295_292.out; have hnc53 := NB292_295.out; have hcz54_0 : w49.cell? ⟨gb295, 0, none⟩ = some (.int .i64 0) := (blk_cell BK295.out 0).trans rfl; have hcz54_1 : w49.cell? ⟨gb295, 1, none⟩ = some (.int .i64 0) := (blk_cell BK295.out 1).trans rfl; have hcz54_2 : w49.cell? ⟨gb295, 2, none⟩ = some (.int .i64 0) := (blk_cell BK295.out 2).trans rfl; have hcz54_3 : w49.cell? ⟨gb295, 3, none⟩ = some (.int .i64 0) := (blk_cell BK295.out 3).trans rfl; have hcz54_4 : w49.cell? ⟨gb295, 4, none⟩ = some (.int .i64 0) := (blk_cell BK295.out 4).trans rfl; have hcz54_5 : w49.cell? ⟨gb295, 5, none⟩ = some (.int .i64 0) := (blk_cell BK295.out 5).trans rfl; have hcz54_6 : w49.cell? ⟨gb295, 6, none⟩ = some (.int .i64 0) := (blk_cell BK295.out 6).trans rfl; have hfz54_0 := blk_frozen BK295.out 0; have hfz54_1 := blk_frozen BK295.out 1; have hfz54_2 := blk_frozen BK295.out 2; have hfz54_3 := blk_frozen BK295.out 3; have hfz54_4 := blk_frozen BK295.out 4; have hfz54_5 := blk_frozen BK295.out 5; have hfz54_6 := blk_frozen BK295.out 6; have hnb55 := NB290_292.out; have hnc55 := NB292_290.out; obtain ⟨hcz56_0, hcz56_1, hfz56_0, hfz56_1⟩ := cz2_ BK290; obtain ⟨hcz57_0, hcz57_1, hfz57_0, hfz57_1⟩ := cz2_ BK291) | (go_at_call 29; (with_reducible refine (warrantorref13_Does.calls ((rd_T57 l0_3 a2_0).f2.f0) ((rd_T57 l0_3 a2_0).f2.f1) ((rd_T57 l0_3 a2_0).f2.f2) ((rd_T57 l0_3 a2_0).f2.f3) ((rd_T57 l0_3 a2_0).f2.f4) _ _ l1_1 a2_1 t296 t299 _ ?side1 ?side2 A40.out).mono ?_); (case side1 => exact Kd.C_below HR1_1.out HB_); (case side2 => exact HC1_1.out); rintro e w58 ⟨v297, rfl, ho0, hb⟩; have n_ := a_ (Aside0.mk (Kd.R_lower ho0 (below_size HB_))) (a_ (bc_ #[.string a0_0, .slice A0_1 l0_1.length c0_1, .slice A0_2 l0_2.length c0_2, .slice (some ad294) l0_3.length c0_3] 26 BK289 hb) (a_ (bc_ #[.int .i64 a1_0, .slice A1_1 l1_1.length c1_1] 29 BK290 hb) (a_ (bc_ #[.int .i64 a2_0, .int .i64 a2_1] 31 BK291 hb) (a_ (bc_ #[.int .i64 0, .slice none 0 0] 29 BK292 hb) (a_ (bc_ #[.int .i64 ((rd_T57 l0_3 a2_0).f0), .int .i64 ((rd_T57 l0_3 a2_0).f1), .int .i64 ((rd_T57 l0_3 a2_0).f2.f0), .int .i64 ((rd_T57 l0_3 a2_0).f2.f1), .int .i64 ((rd_T57 l0_3 a2_0).f2.f2), .int .i64 ((rd_T57 l0_3 a2_0).f2.f3), .int .i64 ((rd_T57 l0_3 a2_0).f2.f4)] 57 BK295 hb) (bs_ HB hb)))))); clear BK289 BK290 BK291 BK292 BK295 HB; obtain ⟨HO298, BK289, BK290, BK291, BK292, BK295, HB⟩ := n_; (try clear hb); (try clear hb2); (try clear hk); (try clear hi); (try clear ho0); have hcz59_0 : w58.cell? ⟨gb295, 0, none⟩ = some (.int .i64 ((rd_T57 l0_3 a2_0).f0)) := (blk_cell BK295.out 0).trans rfl; have hcz59_1 : w58.cell? ⟨gb295, 1, none⟩ = some (.int .i64 ((rd_T57 l0_3 a2_0).f1)) := (blk_cell BK295.out 1).trans rfl; have hcz59_2 : w58.cell? ⟨gb295, 2, none⟩ = some (.int .i64 ((rd_T57 l0_3 a2_0).f2.f0)) := (blk_cell BK295.out 2).trans rfl; have hcz59_3 : w58.cell? ⟨gb295, 3, none⟩ = some (.int .i64 ((rd_T57 l0_3 a2_0).f2.f1)) := (blk_cell BK295.out 3).trans rfl; have hcz59_4 : w58.cell? ⟨gb295, 4, none⟩ = some (.int .i64 ((rd_T57 l0_3 a2_0).f2.f2)) := (blk_cell BK295.out 4).trans rfl; have hcz59_5 : w58.cell? ⟨gb295, 5, none⟩ = some (.int .i64 ((rd_T57 l0_3 a2_0).f2.f3)) := (blk_cell BK295.out 5).trans rfl; have hcz59_6 : w58.cell? ⟨gb295, 6, none⟩ = some (.int .i64 ((rd_T57 l0_3 a2_0).f2.f4)) := (blk_cell BK295.out 6).trans rfl; have hfz59_0 := blk_frozen BK295.out 0; have hfz59_1 := blk_frozen BK295.out 1; have hfz59_2 := blk_frozen BK295.out 2; have hfz59_3 := blk_frozen BK295.out 3; have hfz59_4 := blk_frozen BK295.out 4; have hfz59_5 := blk_frozen BK295.out 5; have hfz59_6 := blk_frozen BK295.out 6; obtain ⟨Ao60, co60, eo60⟩ := Kd.R_slice HO298.out; subst eo60; obtain ⟨hcz61_0, hcz61_1, hfz61_0, hfz61_1⟩ := cz2_ BK292))
    repeat (go_quiet (first | ((with_reducible refine gate_dst (N := 8) rfl ?_); (try (refine gate_guard (by rfl) ?_; dsimp only)); refine bx_ (N := 8) (cs := #[.int .i64 0, .int .i64 0, .int .i64 0, .int .i64 0, .int .i64 0, .int .i64 0, .int .i64 0]) (t := 57) ?_; intro gb295 hg w49 hbox hb; have n_ := a_ (bb_ BK289 hb) (a_ (bb_ BK290 hb) (a_ (bb_ BK291 hb) (a_ (bb_ BK292 hb) (a_ (bs_ HB hb) (a_ (Aside0.mk hbox) (a_ (gs_ HB hg) (a_ (gs_ HB hg) (a_ (nl_ BK289 hg) (a_ (ng_ BK289 hg) (a_ (nl_ BK290 hg) (a_ (ng_ BK290 hg) (a_ (nl_ BK291 hg) (a_ (ng_ BK291 hg) (a_ (nl_ BK292 hg) (ng_ BK292 hg))))))))))))))); clear BK289 BK290 BK291 BK292 HB; obtain ⟨BK289, BK290, BK291, BK292, HB, BK295, GW295, GE295, NB289_295, NB295_289, NB290_295, NB295_290, NB291_295, NB295_291, NB292_295, NB295_292⟩ := n_; clear hb hbox hg; have hnb50 := NB295_289.out; have hnc50 := NB289_295.out; have hnb51 := NB295_290.out; have hnc51 := NB290_295.out; have hnb52 := NB295_291.out; have hnc52 := NB291_295.out; have hnb53 := NB295_292.out; have hnc53 := NB292_295.out; have hcz54_0 : w49.cell? ⟨gb295, 0, none⟩ = some (.int .i64 0) := (blk_cell BK295.out 0).trans rfl; have hcz54_1 : w49.cell? ⟨gb295, 1, none⟩ = some (.int .i64 0) := (blk_cell BK295.out 1).trans rfl; have hcz54_2 : w49.cell? ⟨gb295, 2, none⟩ = some (.int .i64 0) := (blk_cell BK295.out 2).trans rfl; have hcz54_3 : w49.cell? ⟨gb295, 3, none⟩ = some (.int .i64 0) := (blk_cell BK295.out 3).trans rfl; have hcz54_4 : w49.cell? ⟨gb295, 4, none⟩ = some (.int .i64 0) := (blk_cell BK295.out 4).trans rfl; have hcz54_5 : w49.cell? ⟨gb295, 5, none⟩ = some (.int .i64 0) := (blk_cell BK295.out 5).trans rfl; have hcz54_6 : w49.cell? ⟨gb295, 6, none⟩ = some (.int .i64 0) := (blk_cell BK295.out 6).trans rfl; have hfz54_0 := blk_frozen BK295.out 0; have hfz54_1 := blk_frozen BK295.out 1; have hfz54_2 := blk_frozen BK295.out 2; have hfz54_3 := blk_frozen BK295.out 3; have hfz54_4 := blk_frozen BK295.out 4; have hfz54_5 := blk_frozen BK295.out 5; have hfz54_6 := blk_frozen BK295.out 6; have hnb55 := NB290_292.out; have hnc55 := NB292_290.out; obtain ⟨hcz56_0, hcz56_1, hfz56_0, hfz56_1⟩ := cz2_ BK290; obtain ⟨hcz57_0, hcz57_1, hfz57_0, hfz57_1⟩ := cz2_ BK291) | (go_at_call 29; (with_reducible refine (warrantorref13_Does.calls ((rd_T57 l0_3 a2_0).f2.f0) ((rd_T57 l0_3 a2_0).f2.f1) ((rd_T57 l0_3 a2_0).f2.f2) ((rd_T57 l0_3 a2_0).f2.f3) ((rd_T57 l0_3 a2_0).f2.f4) _ _ l1_1 a2_1 t296 t299 _ ?side1 ?side2 A40.out).mono ?_); (case side1 => exact Kd.C_below HR1_1.out HB_); (case side2 => exact HC1_1.out); rintro e w58 ⟨v297, rfl, ho0, hb⟩; have n_ := a_ (Aside0.mk (Kd.R_lower ho0 (below_size HB_))) (a_ (bc_ #[.string a0_0, .slice A0_1 l0_1.length c0_1, .slice A0_2 l0_2.length c0_2, .slice (some ad294) l0_3.length c0_3] 26 BK289 hb) (a_ (bc_ #[.int .i64 a1_0, .slice A1_1 l1_1.length c1_1] 29 BK290 hb) (a_ (bc_ #[.int .i64 a2_0, .int .i64 a2_1] 31 BK291 hb) (a_ (bc_ #[.int .i64 0, .slice none 0 0] 29 BK292 hb) (a_ (bc_ #[.int .i64 ((rd_T57 l0_3 a2_0).f0), .int .i64 ((rd_T57 l0_3 a2_0).f1), .int .i64 ((rd_T57 l0_3 a2_0).f2.f0), .int .i64 ((rd_T57 l0_3 a2_0).f2.f1), .int .i64 ((rd_T57 l0_3 a2_0).f2.f2), .int .i64 ((rd_T57 l0_3 a2_0).f2.f3), .int .i64 ((rd_T57 l0_3 a2_0).f2.f4)] 57 BK295 hb) (bs_ HB hb)))))); clear BK289 BK290 BK291 BK292 BK295 HB; obtain ⟨HO298, BK289, BK290, BK291, BK292, BK295, HB⟩ := n_; (try clear hb); (try clear hb2); (try clear hk); (try clear hi); (try clear ho0); have hcz59_0 : w58.cell? ⟨gb295, 0, none⟩ = some (.int .i64 ((rd_T57 l0_3 a2_0).f0)) := (blk_cell BK295.out 0).trans rfl; have hcz59_1 : w58.cell? ⟨gb295, 1, none⟩ = some (.int .i64 ((rd_T57 l0_3 a2_0).f1)) := (blk_cell BK295.out 1).trans rfl; have hcz59_2 : w58.cell? ⟨gb295, 2, none⟩ = some (.int .i64 ((rd_T57 l0_3 a2_0).f2.f0)) := (blk_cell BK295.out 2).trans rfl; have hcz59_3 : w58.cell? ⟨gb295, 3, none⟩ = some (.int .i64 ((rd_T57 l0_3 a2_0).f2.f1)) := (blk_cell BK295.out 3).trans rfl; have hcz59_4 : w58.cell? ⟨gb295, 4, none⟩ = some (.int .i64 ((rd_T57 l0_3 a2_0).f2.f2)) := (blk_cell BK295.out 4).trans rfl; have hcz59_5 : w58.cell? ⟨gb295, 5, none⟩ = some (.int .i64 ((rd_T57 l0_3 a2_0).f2.f3)) := (blk_cell BK295.out 5).trans rfl; have hcz59_6 : w58.cell? ⟨gb295, 6, none⟩ = some (.int .i64 ((rd_T57 l0_3 a2_0).f2.f4)) := (blk_cell BK295.out 6).trans rfl; have hfz59_0 := blk_frozen BK295.out 0; have hfz59_1 := blk_frozen BK295.out 1; have hfz59_2 := blk_frozen BK295.out 2; have hfz59_3 := blk_frozen BK295.out 3; have hfz59_4 := blk_frozen BK295.out 4; have hfz59_5 := blk_frozen BK295.out 5; have hfz59_6 := blk_frozen BK295.out 6; obtain ⟨Ao60, co60, eo60⟩ := Kd.R_slice HO298.out; subst eo60; obtain ⟨hcz61_0, hcz61_1, hfz61_0, hfz61_1⟩ := cz2_ BK292)); try go_wp2_with (first | ((with_reducible refine gate_dst (N := 8) rfl ?_); (try (refine gate_guard (by rfl) ?_; dsimp only)); refine bx_ (N := 8) (cs := #[.int .i64 0, .int .i64 0, .int .i64 0, .int .i64 0, .int .i64 0, .int .i64 0, .int .i64 0]) (t := 57) ?_; intro gb295 hg w49 hbox hb; have n_ := a_ (bb_ BK289 hb) (a_ (bb_ BK290 hb) (a_ (bb_ BK291 hb) (a_ (bb_ BK292 hb) (a_ (bs_ HB hb) (a_ (Aside0.mk hbox) (a_ (gs_ HB hg) (a_ (gs_ HB hg) (a_ (nl_ BK289 hg) (a_ (ng_ BK289 hg) (a_ (nl_ BK290 hg) (a_ (ng_ BK290 hg) (a_ (nl_ BK291 hg) (a_ (ng_ BK291 hg) (a_ (nl_ BK292 hg) (ng_ BK292 hg))))))))))))))); clear BK289 BK290 BK291 BK292 HB; obtain ⟨BK289, BK290, BK291, BK292, HB, BK295, GW295, GE295, NB289_295, NB295_289, NB290_295, NB295_290, NB291_295, NB295_291, NB292_295, NB295_292⟩ := n_; clear hb hbox hg; have hnb50 := NB295_289.out; have hnc50 := NB289_295.out; have hnb51 := NB295_290.out; have hnc51 := NB290_295.out; have hnb52 := NB295_291.out; have hnc52 := NB291_295.out; have hnb53 := NB295_292.out; have hnc53 := NB292_295.out; have hcz54_0 : w49.cell? ⟨gb295, 0, none⟩ = some (.int .i64 0) := (blk_cell BK295.out 0).trans rfl; have hcz54_1 : w49.cell? ⟨gb295, 1, none⟩ = some (.int .i64 0) := (blk_cell BK295.out 1).trans rfl; have hcz54_2 : w49.cell? ⟨gb295, 2, none⟩ = some (.int .i64 0) := (blk_cell BK295.out 2).trans rfl; have hcz54_3 : w49.cell? ⟨gb295, 3, none⟩ = some (.int .i64 0) := (blk_cell BK295.out 3).trans rfl; have hcz54_4 : w49.cell? ⟨gb295, 4, none⟩ = some (.int .i64 0) := (blk_cell BK295.out 4).trans rfl; have hcz54_5 : w49.cell? ⟨gb295, 5, none⟩ = some (.int .i64 0) := (blk_cell BK295.out 5).trans rfl; have hcz54_6 : w49.cell? ⟨gb295, 6, none⟩ = some (.int .i64 0) := (blk_cell BK295.out 6).trans rfl; have hfz54_0 := blk_frozen BK295.out 0; have hfz54_1 := blk_frozen BK295.out 1; have hfz54_2 := blk_frozen BK295.out 2; have hfz54_3 := blk_frozen BK295.out 3; have hfz54_4 := blk_frozen BK295.out 4; have hfz54_5 := blk_frozen BK295.out 5; have hfz54_6 := blk_frozen BK295.out 6; have hnb55 := NB290_292.out; have hnc55 := NB292_290.out; obtain ⟨hcz56_0, hcz56_1, hfz56_0, hfz56_1⟩ := cz2_ BK290; obtain ⟨hcz57_0, hcz57_1, hfz57_0, hfz57_1⟩ := cz2_ BK291) | (go_at_call 29; (with_reducible refine (warrantorref13_Does.calls ((rd_T57 l0_3 a2_0).f2.f0) ((rd_T57 l0_3 a2_0).f2.f1) ((rd_T57 l0_3 a2_0).f2.f2) ((rd_T57 l0_3 a2_0).f2.f3) ((rd_T57 l0_3 a2_0).f2.f4) _ _ l1_1 a2_1 t296 t299 _ ?side1 ?side2 A40.out).mono ?_); (case side1 => exact Kd.C_below HR1_1.out HB_); (case side2 => exact HC1_1.out); rintro e w58 ⟨v297, rfl, ho0, hb⟩; have n_ := a_ (Aside0.mk (Kd.R_lower ho0 (below_size HB_))) (a_ (bc_ #[.string a0_0, .slice A0_1 l0_1.length c0_1, .slice A0_2 l0_2.length c0_2, .slice (some ad294) l0_3.length c0_3] 26 BK289 hb) (a_ (bc_ #[.int .i64 a1_0, .slice A1_1 l1_1.length c1_1] 29 BK290 hb) (a_ (bc_ #[.int .i64 a2_0, .int .i64 a2_1] 31 BK291 hb) (a_ (bc_ #[.int .i64 0, .slice none 0 0] 29 BK292 hb) (a_ (bc_ #[.int .i64 ((rd_T57 l0_3 a2_0).f0), .int .i64 ((rd_T57 l0_3 a2_0).f1), .int .i64 ((rd_T57 l0_3 a2_0).f2.f0), .int .i64 ((rd_T57 l0_3 a2_0).f2.f1), .int .i64 ((rd_T57 l0_3 a2_0).f2.f2), .int .i64 ((rd_T57 l0_3 a2_0).f2.f3), .int .i64 ((rd_T57 l0_3 a2_0).f2.f4)] 57 BK295 hb) (bs_ HB hb)))))); clear BK289 BK290 BK291 BK292 BK295 HB; obtain ⟨HO298, BK289, BK290, BK291, BK292, BK295, HB⟩ := n_; (try clear hb); (try clear hb2); (try clear hk); (try clear hi); (try clear ho0); have hcz59_0 : w58.cell? ⟨gb295, 0, none⟩ = some (.int .i64 ((rd_T57 l0_3 a2_0).f0)) := (blk_cell BK295.out 0).trans rfl; have hcz59_1 : w58.cell? ⟨gb295, 1, none⟩ = some (.int .i64 ((rd_T57 l0_3 a2_0).f1)) := (blk_cell BK295.out 1).trans rfl; have hcz59_2 : w58.cell? ⟨gb295, 2, none⟩ = some (.int .i64 ((rd_T57 l0_3 a2_0).f2.f0)) := (blk_cell BK295.out 2).trans rfl; have hcz59_3 : w58.cell? ⟨gb295, 3, none⟩ = some (.int .i64 ((rd_T57 l0_3 a2_0).f2.f1)) := (blk_cell BK295.out 3).trans rfl; have hcz59_4 : w58.cell? ⟨gb295, 4, none⟩ = some (.int .i64 ((rd_T57 l0_3 a2_0).f2.f2)) := (blk_cell BK295.out 4).trans rfl; have hcz59_5 : w58.cell? ⟨gb295, 5, none⟩ = some (.int .i64 ((rd_T57 l0_3 a2_0).f2.f3)) := (blk_cell BK295.out 5).trans rfl; have hcz59_6 : w58.cell? ⟨gb295, 6, none⟩ = some (.int .i64 ((rd_T57 l0_3 a2_0).f2.f4)) := (blk_cell BK295.out 6).trans rfl; have hfz59_0 := blk_frozen BK295.out 0; have hfz59_1 := blk_frozen BK295.out 1; have hfz59_2 := blk_frozen BK295.out 2; have hfz59_3 := blk_frozen BK295.out 3; have hfz59_4 := blk_frozen BK295.out 4; have hfz59_5 := blk_frozen BK295.out 5; have hfz59_6 := blk_frozen BK295.out 6; obtain ⟨Ao60, co60, eo60⟩ := Kd.R_slice HO298.out; subst eo60; obtain ⟨hcz61_0, hcz61_1, hfz61_0, hfz61_1⟩ := cz2_ BK292)))
    refine bodyPost_ret (results_ct rfl _ _ gb292 29 #[.int .i64 ((rd_T57 l0_3 a2_0).f1), .slice Ao60 t296.length co60] (0, 0) _ rfl (bk2_ BK292.out) Try.underlying29 rfl (by kernel_rfl)) rfl ?_
    exact ⟨_, by first | rfl | (simp [errW_none, errW_some] <;> rfl) | (simp [*, errW_none, errW_some] <;> rfl), by (with_reducible repeat (first | apply Kd.R_alloc | apply Kd.R_drewN | apply Kd.R_drew)); exact Kd.R_mono (Kd.R_far (p := ⟨gb292, 1, none⟩) (Kd.R_far (p := ⟨gb292, 0, none⟩) (Kd.R_types HO298.out BK292.out (by decide)) (fun _ hk => hk.2) (.int .i64 ((rd_T57 l0_3 a2_0).f1))) (fun _ hk => hk.2) (.slice Ao60 t296.length co60)) (fun _ hk => trivial), HB_⟩
end Go.Proofs.Ytpcpbeklaibdfaa.C

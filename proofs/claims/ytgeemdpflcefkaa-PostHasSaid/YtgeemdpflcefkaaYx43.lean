import Derived.Test.YtgeemdpflcefkaaYx0
import Derived.Test.YtgeemdpflcefkaaYx3
import Derived.Test.YtgeemdpflcefkaaYx28
import Derived.Test.YtgeemdpflcefkaaYx29
import Derived.Test.YtgeemdpflcefkaaYx32
import Derived.Test.YtgeemdpflcefkaaYx35
import Derived.Test.YtgeemdpflcefkaaYx41
import Derived.Test.YtgeemdpflcefkaaYx42
namespace Go.Proofs.Ytgeemdpflcefkaa.Y
open Go.RowKit Go.Proofs.YtgeemdpflcefkaaW.PrintWords Go.Proofs.YtgeemdpflcefkaaW.PrintLast Go.Proofs.YtgeemdpflcefkaaW.PrintMore
attribute [local go_sem] max2_int min2_int max_two min_two max_three min_three max_four min_four   -- for this text's walks alone
set_option linter.unusedVariables false
set_option linter.unusedSimpArgs false
mutual
def warrantorlaw14_PostHas.j0 : Nat → List Int → Int → Bool → Int → List Int → Int → Int → Int → Int → Int → Option (Bool)
 | 0, _, _, _, _, _, _, _, _, _, _ => none
 | k + 1, x2, x3, x34, x558000, x558001, x559000, x559001, x559002, x559003, x559004 => if x34 = true then ((warrantorlaw14_lives.f k).bind fun t562 => (some t562)) else (if (x2.length : Int) = x558000 then ((post_Post.f k x558000 x558001 x559000 x559001 x559002 x559003 x559004).bind fun bt563 => ((post_Fault.f k x558000 x558001 x559000 x559001 x559002 x559003 x559004).bind fun bt569 => ((warrantorref13_Does.f x559000 x559001 x559002 x559003 x559004 x2 x3).bind fun bt575 => ((warrantorlaw14_lives.f k).bind fun t579 => (if t579 = true then ((dbm_Has.f k bt569.1 bt569.2.1 x2).bind fun t580 => (warrantorlaw14_PostHas.j1 k x2 bt575.1 bt575.2 (t580 != (bt575.2 == 131)) x559000 x559001 x559002 x559003 x559004 bt563.1 bt563.2.1)) else (warrantorlaw14_PostHas.j1 k x2 bt575.1 bt575.2 true x559000 x559001 x559002 x559003 x559004 bt563.1 bt563.2.1)))))) else (none))
def warrantorlaw14_PostHas.j1 : Nat → List Int → List Int → Int → Bool → Int → Int → Int → Int → Int → Int → List Int → Option (Bool)
 | 0, _, _, _, _, _, _, _, _, _, _, _ => none
 | k + 1, x2, x13, x14, x69, x559000, x559001, x559002, x559003, x559004, x569000, x569001 => if x69 = true then (none) else (if x559000 = 4 then (warrantorlaw14_PostHas.j2 k x2 x13 x14 true x569000 x569001) else (warrantorlaw14_PostHas.j2 k x2 x13 x14 (x559000 == 5) x569000 x569001))
def warrantorlaw14_PostHas.j2 : Nat → List Int → List Int → Int → Bool → Int → List Int → Option (Bool)
 | 0, _, _, _, _, _, _ => none
 | k + 1, x2, x13, x14, x77, x569000, x569001 => if x77 = true then ((dbm_Has.f k x569000 x569001 x2).bind fun t581 => (some (t581 == (x14 == 0)))) else (if x14 = 0 then ((dbm_Has.f k x569000 x569001 x13).bind fun t582 => (some t582)) else (some true))
end
def warrantorlaw14_PostHas.f (k : Nat) (a0_0 : Int) (l0_1 : List Int) (a1_0 : Int) (a1_1 : Int) (a1_2 : Int) (a1_3 : Int) (a1_4 : Int) (l2 : List Int) (a3 : Int) : Option (Bool) := (warrantorref08_Large.f l0_1).bind fun t559 => (if t559 = true then (warrantorlaw14_PostHas.j0 k l2 a3 true a0_0 l0_1 a1_0 a1_1 a1_2 a1_3 a1_4) else (if (l2.length : Int) > 20 then (warrantorlaw14_PostHas.j0 k l2 a3 true a0_0 l0_1 a1_0 a1_1 a1_2 a1_3 a1_4) else ((warrantorref14_Check.f k a0_0 l0_1 a1_0 a1_1 a1_2 a1_3 a1_4).bind fun t560 => (if t560 = 0 then ((dbm_Has.f k a0_0 l0_1 l2).bind fun t561 => (warrantorlaw14_PostHas.j0 k l2 a3 (!t561) a0_0 l0_1 a1_0 a1_1 a1_2 a1_3 a1_4)) else (warrantorlaw14_PostHas.j0 k l2 a3 true a0_0 l0_1 a1_0 a1_1 a1_2 a1_3 a1_4)))))
set_option maxHeartbeats 8000000 in
set_option maxRecDepth 100000 in
theorem warrantorlaw14_PostHas.calls (k : Nat) (a0_0 : Int) (A0_1 : Option Addr) (c0_1 : Nat) (l0_1 : List Int) (a1_0 : Int) (a1_1 : Int) (a1_2 : Int) (a1_3 : Int) (a1_4 : Int) (A2 : Option Addr) (c2 : Nat) (l2 : List Int) (a3 : Int) (r : Bool) (w : World) (hr0_1 : Kd.C (Kd.int .i64) w A0_1 l0_1.length l0_1) (hc0_1 : l0_1.length ≤ c0_1) (hr2 : Kd.C (Kd.int .i64) w A2 l2.length l2) (hc2 : l2.length ≤ c2) (h : warrantorlaw14_PostHas.f k a0_0 l0_1 a1_0 a1_1 a1_2 a1_3 a1_4 l2 a3 = some r) :
  Calls Try.prog 8 #[.agg #[.int .i64 a0_0, .slice A0_1 l0_1.length c0_1], .agg #[.int .i64 a1_0, .int .i64 a1_1, .int .i64 a1_2, .int .i64 a1_3, .int .i64 a1_4], .slice A2 l2.length c2, .int .i64 a3] w fun e w' => e = .returned (.bool r) ∧ Below w.heap.size w w' := by
 have hu24 := Try.underlying24
 have hu26 := Try.underlying26
 have HR0_1 := Aside0.mk hr0_1
 have HC0_1 := Aside0.mk hc0_1
 clear hr0_1 hc0_1
 have HR2 := Aside0.mk hr2
 have HC2 := Aside0.mk hc2
 clear hr2 hc2
 have HB := Aside0.mk (Below.refl w.heap.size w)
 have H : ((warrantorref08_Large.f l0_1).bind fun t559 => (if t559 = true then (warrantorlaw14_PostHas.j0 k l2 a3 true a0_0 l0_1 a1_0 a1_1 a1_2 a1_3 a1_4) else (if (l2.length : Int) > 20 then (warrantorlaw14_PostHas.j0 k l2 a3 true a0_0 l0_1 a1_0 a1_1 a1_2 a1_3 a1_4) else ((warrantorref14_Check.f k a0_0 l0_1 a1_0 a1_1 a1_2 a1_3 a1_4).bind fun t560 => (if t560 = 0 then ((dbm_Has.f k a0_0 l0_1 l2).bind fun t561 => (warrantorlaw14_PostHas.j0 k l2 a3 (!t561) a0_0 l0_1 a1_0 a1_1 a1_2 a1_3 a1_4)) else (warrantorlaw14_PostHas.j0 k l2 a3 true a0_0 l0_1 a1_0 a1_1 a1_2 a1_3 a1_4)))))) = some r := h
 clear h
 have HC5 := Aside0.mk H
 clear H
 go_enter Try.func8, Try.ntmps8
 go_upto_region 1 with (first | ((with_reducible refine gate_dst (N := 4) rfl ?_); (try (refine gate_guard (by rfl) ?_; dsimp only)); refine bx_ (N := 4) (cs := #[.int .i64 a0_0, .slice A0_1 l0_1.length c0_1]) (t := 24) ?_; intro gb557 hg w6 hbox hb; have n_ := a_ (bs_ HB hb) (a_ (Aside0.mk hbox) (a_ (gs_ HB hg) (gs_ HB hg))); clear HB; obtain ⟨HB, BK557, GW557, GE557⟩ := n_; clear hb hbox hg) | ((with_reducible refine gate_dst (N := 5) rfl ?_); (try (refine gate_guard (by rfl) ?_; dsimp only)); refine bx_ (N := 5) (cs := #[.int .i64 a1_0, .int .i64 a1_1, .int .i64 a1_2, .int .i64 a1_3, .int .i64 a1_4]) (t := 26) ?_; intro gb558 hg w7 hbox hb; have n_ := a_ (bb_ BK557 hb) (a_ (bs_ HB hb) (a_ (Aside0.mk hbox) (a_ (gs_ HB hg) (a_ (gs_ HB hg) (a_ (nl_ BK557 hg) (ng_ BK557 hg)))))); clear BK557 HB; obtain ⟨BK557, HB, BK558, GW558, GE558, NB557_558, NB558_557⟩ := n_; clear hb hbox hg))
 (try simp only [Act.put, List.setIfInBounds_toArray, List.set_cons_zero, List.set_cons_succ])
 go_cut [34] (fun v34 wc => ∃ (kq : Nat) (x34_4 : Bool), v34 = .bool x34_4 ∧ Aside0 (warrantorlaw14_PostHas.j0 kq l2 a3 x34_4 a0_0 l0_1 a1_0 a1_1 a1_2 a1_3 a1_4 = some r) ∧ Aside0 (kq ≤ k) ∧ Aside0 (wc.heap[gb557]? = some (.cells #[.int .i64 a0_0, (.slice A0_1 l0_1.length c0_1)] 24 (0, 0))) ∧ Aside0 (wc.heap[gb558]? = some (.cells #[.int .i64 a1_0, .int .i64 a1_1, .int .i64 a1_2, .int .i64 a1_3, .int .i64 a1_4] 26 (0, 0))) ∧ Aside0 (Below w.heap.size w wc))
 case first =>
  have H := HC5.out
  clear HC5
  replace H := bd_ H
  obtain ⟨t559, A8, H⟩ := H
  (try dsimp only at H)
  by_cases c9 : t559 = true
  · subst c9
    replace H := ps1_ H
    have H' := Aside0.mk H
    clear H
    have hnb10 := NB557_558.out
    have hnc10 := NB558_557.out
    obtain ⟨hcz11_0, hcz11_1, hfz11_0, hfz11_1⟩ := cz2_ BK557
    go_wp2_with (first | ((with_reducible refine gate_callee (f := 12) rfl ?_); refine goesL_ (some 17) rfl rfl Try.func12 (by kernel_rfl) rfl #[.slice A0_1 l0_1.length c0_1] rfl MP_ ?_; (with_reducible refine (warrantorref08_Large.calls _ _ l0_1 true _ ?side1 ?side2 A8.out).mono ?_); (case side1 => exact sd_ (Kd.C_below HR0_1.out HB.out)); (case side2 => exact HC0_1.out); rintro e w' ⟨rfl, ⟨nd, rfl⟩⟩; refine ⟨_, rfl, ?_⟩))
    go_meet
    case rel => exact ⟨_, (true), (by first | rfl | (simp; done) | (simp [*]; done)), H', ⟨by first | omega | exact Nat.le_refl _⟩, ⟨by (with_reducible repeat (first | refine blk_drewN ?_ _ | refine blk_drew ?_ | refine blk_alloc ?_ _)); exact BK557.out⟩, ⟨by (with_reducible repeat (first | refine blk_drewN ?_ _ | refine blk_drew ?_ | refine blk_alloc ?_ _)); exact BK558.out⟩, ⟨HB_⟩⟩
  replace c9 := Bool.eq_false_iff.mpr c9
  subst c9
  replace H := ng1_ H
  by_cases c12 : (l2.length : Int) > 20
  · rw [if_pos c12] at H
    have c12b0 : decide (20 < (l2.length : Int)) = true := decide_eq_true c12
    have c12b1 : decide (20 < l2.length) = true := decide_eq_true (by omega)
    clear c12
    (first | rw [c12b0] | (simp only [i64_w, i32_w]; rw [c12b0]) | skip)
    have H' := Aside0.mk H
    clear H
    have hnb13 := NB557_558.out
    have hnc13 := NB558_557.out
    obtain ⟨hcz14_0, hcz14_1, hfz14_0, hfz14_1⟩ := cz2_ BK557
    go_wp2_with (first | ((with_reducible refine gate_callee (f := 12) rfl ?_); refine goesL_ (some 17) rfl rfl Try.func12 (by kernel_rfl) rfl #[.slice A0_1 l0_1.length c0_1] rfl MP_ ?_; (with_reducible refine (warrantorref08_Large.calls _ _ l0_1 false _ ?side1 ?side2 A8.out).mono ?_); (case side1 => exact sd_ (Kd.C_below HR0_1.out HB.out)); (case side2 => exact HC0_1.out); rintro e w' ⟨rfl, ⟨nd, rfl⟩⟩; refine ⟨_, rfl, ?_⟩))
    go_meet
    case rel => exact ⟨_, (true), (by first | rfl | (simp; done) | (simp [*]; done)), H', ⟨by first | omega | exact Nat.le_refl _⟩, ⟨by (with_reducible repeat (first | refine blk_drewN ?_ _ | refine blk_drew ?_ | refine blk_alloc ?_ _)); exact BK557.out⟩, ⟨by (with_reducible repeat (first | refine blk_drewN ?_ _ | refine blk_drew ?_ | refine blk_alloc ?_ _)); exact BK558.out⟩, ⟨HB_⟩⟩
  rw [if_neg c12] at H
  have c12b0 : decide (20 < (l2.length : Int)) = false := decide_eq_false c12
  have c12b1 : decide (20 < l2.length) = false := decide_eq_false (by omega)
  clear c12
  (first | rw [c12b0] | (simp only [i64_w, i32_w]; rw [c12b0]) | skip)
  replace H := bd_ H
  obtain ⟨t560, A15, H⟩ := H
  (try dsimp only at H)
  by_cases c16 : t560 = 0
  rotate_left
  · rw [if_neg c16] at H
    have c16b0 : (t560 == 0) = false := beq_eq_false_iff_ne.mpr c16
    have c16b1 : (t560 != 0) = true := bne_iff_ne.mpr c16
    have H' := Aside0.mk H
    clear H
    have hnb24 := NB557_558.out
    have hnc24 := NB558_557.out
    obtain ⟨hcz25_0, hcz25_1, hfz25_0, hfz25_1⟩ := cz2_ BK557
    go_wp2_with (first | ((with_reducible refine gate_callee (f := 12) rfl ?_); refine goesL_ (some 17) rfl rfl Try.func12 (by kernel_rfl) rfl #[.slice A0_1 l0_1.length c0_1] rfl MP_ ?_; (with_reducible refine (warrantorref08_Large.calls _ _ l0_1 false _ ?side1 ?side2 A8.out).mono ?_); (case side1 => exact sd_ (Kd.C_below HR0_1.out HB.out)); (case side2 => exact HC0_1.out); rintro e w' ⟨rfl, ⟨nd, rfl⟩⟩; refine ⟨_, rfl, ?_⟩; obtain ⟨hcz26_0, hcz26_1, hcz26_2, hcz26_3, hcz26_4, hfz26_0, hfz26_1, hfz26_2, hfz26_3, hfz26_4⟩ := cz5_ BK558) | (go_at_call 14; (with_reducible refine (warrantorref14_Check.calls k a0_0 _ _ l0_1 a1_0 a1_1 a1_2 a1_3 a1_4 t560 _ ?side1 ?side2 A15.out).mono ?_); (case side1 => repeat (first | exact (Kd.C_below HR0_1.out HB_) | (with_reducible refine Kd.C_alloc ?_ _) | (with_reducible refine Kd.C_drewN ?_ _) | (with_reducible refine Kd.C_drew ?_))); (case side2 => exact HC0_1.out); rintro e w27 ⟨rfl, hb⟩; have n_ := a_ (bb_ BK557 hb) (a_ (bb_ BK558 hb) (bs_ HB hb)); clear BK557 BK558 HB; obtain ⟨BK557, BK558, HB⟩ := n_; (try clear hb); (try clear hb2); (try clear hk); (try clear hi)))
    go_meet
    case rel => exact ⟨_, (true), (by first | rfl | (simp; done) | (simp [*]; done)), H', ⟨by first | omega | exact Nat.le_refl _⟩, ⟨by (with_reducible repeat (first | refine blk_drewN ?_ _ | refine blk_drew ?_ | refine blk_alloc ?_ _)); exact BK557.out⟩, ⟨by (with_reducible repeat (first | refine blk_drewN ?_ _ | refine blk_drew ?_ | refine blk_alloc ?_ _)); exact BK558.out⟩, ⟨HB_⟩⟩
  rw [if_pos c16] at H
  have c16b0 : (t560 == 0) = true := beq_iff_eq.mpr c16
  have c16b1 : (t560 != 0) = false := bne_eq_false_iff_eq.mpr c16
  clear c16
  replace H := bd_ H
  obtain ⟨t561, A17, H⟩ := H
  (try dsimp only at H)
  have H' := Aside0.mk H
  clear H
  have hnb18 := NB557_558.out
  have hnc18 := NB558_557.out
  obtain ⟨hcz19_0, hcz19_1, hfz19_0, hfz19_1⟩ := cz2_ BK557
  go_wp2_with (first | ((with_reducible refine gate_callee (f := 12) rfl ?_); refine goesL_ (some 17) rfl rfl Try.func12 (by kernel_rfl) rfl #[.slice A0_1 l0_1.length c0_1] rfl MP_ ?_; (with_reducible refine (warrantorref08_Large.calls _ _ l0_1 false _ ?side1 ?side2 A8.out).mono ?_); (case side1 => exact sd_ (Kd.C_below HR0_1.out HB.out)); (case side2 => exact HC0_1.out); rintro e w' ⟨rfl, ⟨nd, rfl⟩⟩; refine ⟨_, rfl, ?_⟩; obtain ⟨hcz20_0, hcz20_1, hcz20_2, hcz20_3, hcz20_4, hfz20_0, hfz20_1, hfz20_2, hfz20_3, hfz20_4⟩ := cz5_ BK558) | (go_at_call 14; (with_reducible refine (warrantorref14_Check.calls k a0_0 _ _ l0_1 a1_0 a1_1 a1_2 a1_3 a1_4 t560 _ ?side1 ?side2 A15.out).mono ?_); (case side1 => repeat (first | exact (Kd.C_below HR0_1.out HB_) | (with_reducible refine Kd.C_alloc ?_ _) | (with_reducible refine Kd.C_drewN ?_ _) | (with_reducible refine Kd.C_drew ?_))); (case side2 => exact HC0_1.out); rintro e w21 ⟨rfl, hb⟩; have n_ := a_ (bb_ BK557 hb) (a_ (bb_ BK558 hb) (bs_ HB hb)); clear BK557 BK558 HB; obtain ⟨BK557, BK558, HB⟩ := n_; (try clear hb); (try clear hb2); (try clear hk); (try clear hi); obtain ⟨hcz22_0, hcz22_1, hfz22_0, hfz22_1⟩ := cz2_ BK557) | (go_at_call 45; (with_reducible refine (dbm_Has.calls k a0_0 _ _ l0_1 _ _ l2 t561 _ ?side1 ?side2 ?side3 ?side4 A17.out).mono ?_); (case side1 => exact sd_ (Kd.C_below HR0_1.out HB.out)); (case side2 => exact HC0_1.out); (case side3 => exact sd_ (Kd.C_below HR2.out HB.out)); (case side4 => exact HC2.out); rintro e w23 ⟨rfl, hb⟩; have n_ := a_ (bb_ BK557 hb) (a_ (bb_ BK558 hb) (bs_ HB hb)); clear BK557 BK558 HB; obtain ⟨BK557, BK558, HB⟩ := n_; (try clear hb); (try clear hb2); (try clear hk); (try clear hi)))
  go_meet
  case rel => exact ⟨_, (!t561), (by first | rfl | (simp; done) | (simp [*]; done)), H', ⟨by first | omega | exact Nat.le_refl _⟩, ⟨by (with_reducible repeat (first | refine blk_drewN ?_ _ | refine blk_drew ?_ | refine blk_alloc ?_ _)); exact BK557.out⟩, ⟨by (with_reducible repeat (first | refine blk_drewN ?_ _ | refine blk_drew ?_ | refine blk_alloc ?_ _)); exact BK558.out⟩, ⟨HB_⟩⟩
 case rest =>
  clear HC5
  try clear c1
  try clear c2
  try clear p2
  try clear c8
  try clear c9
  try clear c10
  try clear c12
  try clear c12b0
  try clear c12b1
  try clear c13
  try clear c16
  try clear c16b0
  try clear c16b1
  try clear c18
  try clear c24
  try clear hcz11_0
  try clear hcz11_1
  try clear hcz14_0
  try clear hcz14_1
  try clear hcz19_0
  try clear hcz19_1
  try clear hcz20_0
  try clear hcz20_1
  try clear hcz20_2
  try clear hcz20_3
  try clear hcz20_4
  try clear hcz22_0
  try clear hcz22_1
  try clear hcz25_0
  try clear hcz25_1
  try clear hcz26_0
  try clear hcz26_1
  try clear hcz26_2
  try clear hcz26_3
  try clear hcz26_4
  try clear hfz11_0
  try clear hfz11_1
  try clear hfz14_0
  try clear hfz14_1
  try clear hfz19_0
  try clear hfz19_1
  try clear hfz20_0
  try clear hfz20_1
  try clear hfz20_2
  try clear hfz20_3
  try clear hfz20_4
  try clear hfz22_0
  try clear hfz22_1
  try clear hfz25_0
  try clear hfz25_1
  try clear hfz26_0
  try clear hfz26_1
  try clear hfz26_2
  try clear hfz26_3
  try clear hfz26_4
  obtain ⟨kq, x34_4, rfl, HA, HJ4, BK557, BK558, HB⟩ := hcut
  cases kq with
  | zero => exact absurd HA.out (by simp [warrantorlaw14_PostHas.j0])
  | succ kj4 =>
    have H := HA.out
    clear HA
    simp only [warrantorlaw14_PostHas.j0] at H
    by_cases c28 : x34_4 = true
    · subst c28
      replace H := ps1_ H
      replace H := bd_ H
      obtain ⟨t562, A29, H⟩ := H
      (try dsimp only at H)
      obtain rfl := Option.some.inj H
      go_wp2_with (first | ((with_reducible refine gate_callee (f := 13) rfl ?_); refine goesL_ (some 35) rfl rfl Try.func13 (by kernel_rfl) rfl #[] rfl MP_ ?_; (with_reducible refine (warrantorlaw14_lives.calls kj4  t562 _ A29.out).mono ?_); rintro e w30 ⟨rfl, hb⟩; refine ⟨_, rfl, ?_⟩; have n_ := a_ (bb_ BK557 hb) (a_ (bb_ BK558 hb) (bs_ HB hb)); clear BK557 BK558 HB; obtain ⟨BK557, BK558, HB⟩ := n_; (try clear hb); (try clear hb2); (try clear hk); (try clear hi)))
      go_ret
      exact ⟨by first | rfl | (simp [errW_none, errW_some] <;> rfl) | (simp [*, errW_none, errW_some] <;> rfl), HB_⟩
    replace c28 := Bool.eq_false_iff.mpr c28
    subst c28
    replace H := ng1_ H
    replace H := yes_ H
    obtain ⟨c31, H⟩ := H
    have c31b0 : ((l2.length : Int) == a0_0) = true := beq_iff_eq.mpr c31
    have c31b1 : ((l2.length : Int) != a0_0) = false := bne_eq_false_iff_eq.mpr c31
    clear c31
    replace H := bd_ H
    obtain ⟨⟨t563, t564, t567⟩, A32, H⟩ := H
    (try dsimp only at H)
    replace H := bd_ H
    obtain ⟨⟨t569, t570, t573⟩, A33, H⟩ := H
    (try dsimp only at H)
    replace H := bd_ H
    obtain ⟨⟨t575, t578⟩, A34, H⟩ := H
    (try dsimp only at H)
    have HC35 := Aside0.mk H
    clear H
    have hnb36 := NB557_558.out
    have hnc36 := NB558_557.out
    obtain ⟨hcz37_0, hcz37_1, hfz37_0, hfz37_1⟩ := cz2_ BK557
    obtain ⟨hcz38_0, hcz38_1, hcz38_2, hcz38_3, hcz38_4, hfz38_0, hfz38_1, hfz38_2, hfz38_3, hfz38_4⟩ := cz5_ BK558
    go_upto_region 8 with (first | ((with_reducible refine gate_callee (f := 15) rfl ?_); refine goesL_ (some 44) rfl rfl Try.func15 (by kernel_rfl) rfl #[.agg #[.int .i64 a0_0, .slice A0_1 l0_1.length c0_1], .agg #[.int .i64 a1_0, .int .i64 a1_1, .int .i64 a1_2, .int .i64 a1_3, .int .i64 a1_4]] rfl MP_ ?_; (with_reducible refine (post_Post.calls kj4 a0_0 _ _ l0_1 a1_0 a1_1 a1_2 a1_3 a1_4 t563 t564 t567 _ ?side1 ?side2 A32.out).mono ?_); (case side1 => exact sd_ (Kd.C_below HR0_1.out HB.out)); (case side2 => exact HC0_1.out); rintro e w39 ⟨v565, rfl, ho0, hb⟩; refine ⟨_, rfl, ?_⟩; have n_ := a_ (Aside0.mk (Kd.R_lower ho0 (below_size HB_))) (a_ (bb_ BK557 hb) (a_ (bb_ BK558 hb) (bs_ HB hb))); clear BK557 BK558 HB; obtain ⟨HO566, BK557, BK558, HB⟩ := n_; (try clear hb); (try clear hb2); (try clear hk); (try clear hi); (try clear ho0)) | ((with_reducible refine gate_dst (N := 9) rfl ?_); (try (refine gate_guard (by rfl) ?_; dsimp only)); refine bx_ (N := 9) (cs := #[.int .i64 0, .slice none 0 0]) (t := 24) ?_; intro gb568 hg w40 hbox hb; have n_ := a_ (rb_ HO566 hb) (a_ (bb_ BK557 hb) (a_ (bb_ BK558 hb) (a_ (bs_ HB hb) (a_ (Aside0.mk hbox) (a_ (gs_ HB hg) (a_ (gs_ HB hg) (a_ (nl_ BK557 hg) (a_ (ng_ BK557 hg) (a_ (nl_ BK558 hg) (ng_ BK558 hg)))))))))); clear HO566 BK557 BK558 HB; obtain ⟨HO566, BK557, BK558, HB, BK568, GW568, GE568, NB557_568, NB568_557, NB558_568, NB568_558⟩ := n_; clear hb hbox hg; have hnb41 := NB568_557.out; have hnc41 := NB557_568.out; have hnb42 := NB568_558.out; have hnc42 := NB558_568.out; obtain ⟨hcz43_0, hcz43_1, hfz43_0, hfz43_1⟩ := cz2_ BK568; obtain ⟨Ao44, co44, eo44⟩ := Kd.R_slice HO566.out; subst eo44; obtain ⟨hcz45_0, hcz45_1, hfz45_0, hfz45_1⟩ := cz2_ BK557; obtain ⟨hcz46_0, hcz46_1, hcz46_2, hcz46_3, hcz46_4, hfz46_0, hfz46_1, hfz46_2, hfz46_3, hfz46_4⟩ := cz5_ BK558) | ((with_reducible refine gate_callee (f := 16) rfl ?_); refine goesL_ (some 50) rfl rfl Try.func16 (by kernel_rfl) rfl #[.agg #[.int .i64 a0_0, .slice A0_1 l0_1.length c0_1], .agg #[.int .i64 a1_0, .int .i64 a1_1, .int .i64 a1_2, .int .i64 a1_3, .int .i64 a1_4]] rfl MP_ ?_; (with_reducible refine (post_Fault.calls kj4 a0_0 _ _ l0_1 a1_0 a1_1 a1_2 a1_3 a1_4 t569 t570 t573 _ ?side1 ?side2 A33.out).mono ?_); (case side1 => exact Kd.C_below HR0_1.out HB_); (case side2 => exact HC0_1.out); rintro e w47 ⟨v571, rfl, ho0, hb⟩; refine ⟨_, rfl, ?_⟩; have n_ := a_ (Aside0.mk (Kd.R_elder' (rd_ (rf2_ HO566 BK568 (.int .i64 t563) (.slice Ao44 t564.length co44))) (Kd.R_base ho0) hb)) (a_ (Aside0.mk (Kd.R_lower (Kd.R_new' ho0 (Kd.R_lt (rd_ (rf2_ HO566 BK568 (.int .i64 t563) (.slice Ao44 t564.length co44))))) (below_size HB_))) (a_ (bc_ #[.int .i64 a0_0, .slice A0_1 l0_1.length c0_1] 24 BK557 hb) (a_ (bc_ #[.int .i64 a1_0, .int .i64 a1_1, .int .i64 a1_2, .int .i64 a1_3, .int .i64 a1_4] 26 BK558 hb) (a_ (bc_ #[.int .i64 t563, .slice Ao44 t564.length co44] 24 BK568 hb) (bs_ HB hb))))); clear HO566 BK557 BK558 BK568 HB; obtain ⟨HO566, HO572, BK557, BK558, BK568, HB⟩ := n_; (try clear hb); (try clear hb2); (try clear hk); (try clear hi); (try clear ho0)) | ((with_reducible refine gate_dst (N := 11) rfl ?_); (try (refine gate_guard (by rfl) ?_; dsimp only)); refine bx_ (N := 11) (cs := #[.int .i64 0, .slice none 0 0]) (t := 24) ?_; intro gb574 hg w48 hbox hb; have n_ := a_ (rb_ HO566 hb) (a_ (rb_ HO572 hb) (a_ (bb_ BK557 hb) (a_ (bb_ BK558 hb) (a_ (bb_ BK568 hb) (a_ (bs_ HB hb) (a_ (Aside0.mk hbox) (a_ (gs_ HB hg) (a_ (gs_ HB hg) (a_ (nl_ BK557 hg) (a_ (ng_ BK557 hg) (a_ (nl_ BK558 hg) (a_ (ng_ BK558 hg) (a_ (nl_ BK568 hg) (ng_ BK568 hg)))))))))))))); clear HO566 HO572 BK557 BK558 BK568 HB; obtain ⟨HO566, HO572, BK557, BK558, BK568, HB, BK574, GW574, GE574, NB557_574, NB574_557, NB558_574, NB574_558, NB568_574, NB574_568⟩ := n_; clear hb hbox hg; have hnb49 := NB574_557.out; have hnc49 := NB557_574.out; have hnb50 := NB574_558.out; have hnc50 := NB558_574.out; have hnb51 := NB574_568.out; have hnc51 := NB568_574.out; obtain ⟨hcz52_0, hcz52_1, hfz52_0, hfz52_1⟩ := cz2_ BK574; obtain ⟨Ao53, co53, eo53⟩ := Kd.R_slice HO572.out; subst eo53; obtain ⟨hcz54_0, hcz54_1, hcz54_2, hcz54_3, hcz54_4, hfz54_0, hfz54_1, hfz54_2, hfz54_3, hfz54_4⟩ := cz5_ BK558) | ((with_reducible refine gate_callee (f := 48) rfl ?_); refine goesL_ (some 57) rfl rfl Try.func48 (by kernel_rfl) rfl #[.agg #[.int .i64 a1_0, .int .i64 a1_1, .int .i64 a1_2, .int .i64 a1_3, .int .i64 a1_4], .slice A2 l2.length c2, .int .i64 a3] rfl MP_ ?_; (with_reducible refine (warrantorref13_Does.calls a1_0 a1_1 a1_2 a1_3 a1_4 _ _ l2 a3 t575 t578 _ ?side1 ?side2 A34.out).mono ?_); (case side1 => exact Kd.C_below HR2.out HB_); (case side2 => exact HC2.out); rintro e w55 ⟨v576, rfl, ho0, hb⟩; refine ⟨_, rfl, ?_⟩; have n_ := a_ (Aside0.mk (Kd.R_elder' (rd_ (rf2_ HO566 BK574 (.int .i64 t569) (.slice Ao53 t570.length co53))) (Kd.R_base ho0) hb)) (a_ (Aside0.mk (Kd.R_elder' (rd_ (rf2_ HO572 BK574 (.int .i64 t569) (.slice Ao53 t570.length co53))) (Kd.R_base ho0) hb)) (a_ (Aside0.mk (Kd.R_lower (Kd.R_new' (Kd.R_new' ho0 (Kd.R_lt (rd_ (rf2_ HO566 BK574 (.int .i64 t569) (.slice Ao53 t570.length co53))))) (Kd.R_lt (rd_ (rf2_ HO572 BK574 (.int .i64 t569) (.slice Ao53 t570.length co53))))) (below_size HB_))) (a_ (bc_ #[.int .i64 a0_0, .slice A0_1 l0_1.length c0_1] 24 BK557 hb) (a_ (bc_ #[.int .i64 a1_0, .int .i64 a1_1, .int .i64 a1_2, .int .i64 a1_3, .int .i64 a1_4] 26 BK558 hb) (a_ (bc_ #[.int .i64 t563, .slice Ao44 t564.length co44] 24 BK568 hb) (a_ (bc_ #[.int .i64 t569, .slice Ao53 t570.length co53] 24 BK574 hb) (bs_ HB hb))))))); clear HO566 HO572 BK557 BK558 BK568 BK574 HB; obtain ⟨HO566, HO572, HO577, BK557, BK558, BK568, BK574, HB⟩ := n_; (try clear hb); (try clear hb2); (try clear hk); (try clear hi); (try clear ho0)))
    (try simp only [Act.put, List.setIfInBounds_toArray, List.set_cons_zero, List.set_cons_succ])
    go_cut [69] (fun v69 wc => ∃ (kq : Nat) (x69_34 : Bool), v69 = .bool x69_34 ∧ Aside0 (warrantorlaw14_PostHas.j1 kq l2 t575 t578 x69_34 a1_0 a1_1 a1_2 a1_3 a1_4 t563 t564 = some r) ∧ Aside0 (kq ≤ kj4) ∧ Aside0 (Kd.R (Kd.int .i64) 3 wc w.heap.size (fun k_ => some k_ ≠ ((.slice Ao44 t564.length co44) : Value).ownBlock ∧ some k_ ≠ ((.slice Ao53 t570.length co53) : Value).ownBlock) v576 t575) ∧ Aside0 (Kd.R (Kd.int .i64) 3 wc w.heap.size (fun k_ => some k_ ≠ (v576 : Value).ownBlock ∧ some k_ ≠ ((.slice Ao53 t570.length co53) : Value).ownBlock) (.slice Ao44 t564.length co44) t564) ∧ Aside0 (Kd.R (Kd.int .i64) 3 wc w.heap.size (fun k_ => some k_ ≠ (v576 : Value).ownBlock ∧ some k_ ≠ ((.slice Ao44 t564.length co44) : Value).ownBlock) (.slice Ao53 t570.length co53) t570) ∧ Aside0 (wc.heap[gb557]? = some (.cells #[.int .i64 a0_0, (.slice A0_1 l0_1.length c0_1)] 24 (0, 0))) ∧ Aside0 (wc.heap[gb558]? = some (.cells #[.int .i64 a1_0, .int .i64 a1_1, .int .i64 a1_2, .int .i64 a1_3, .int .i64 a1_4] 26 (0, 0))) ∧ Aside0 (wc.heap[gb568]? = some (.cells #[.int .i64 t563, (.slice Ao44 t564.length co44)] 24 (0, 0))) ∧ Aside0 (wc.heap[gb574]? = some (.cells #[.int .i64 t569, (.slice Ao53 t570.length co53)] 24 (0, 0))) ∧ Aside0 (Below w.heap.size w wc))
    case first =>
      have H := HC35.out
      clear HC35
      replace H := bd_ H
      obtain ⟨t579, A56, H⟩ := H
      (try dsimp only at H)
      by_cases c57 : t579 = true
      rotate_left
      · replace c57 := Bool.eq_false_iff.mpr c57
        subst c57
        replace H := ng1_ H
        have H' := Aside0.mk H
        clear H
        go_wp2_with (first | ((with_reducible refine gate_callee (f := 13) rfl ?_); refine goesL_ (some 60) rfl rfl Try.func13 (by kernel_rfl) rfl #[] rfl MP_ ?_; (with_reducible refine (warrantorlaw14_lives.calls kj4  false _ A56.out).mono ?_); rintro e w65 ⟨rfl, hb⟩; refine ⟨_, rfl, ?_⟩; have n_ := a_ (rb_ HO566 hb) (a_ (rb_ HO572 hb) (a_ (rb_ HO577 hb) (a_ (bb_ BK557 hb) (a_ (bb_ BK558 hb) (a_ (bb_ BK568 hb) (a_ (bb_ BK574 hb) (bs_ HB hb))))))); clear HO566 HO572 HO577 BK557 BK558 BK568 BK574 HB; obtain ⟨HO566, HO572, HO577, BK557, BK558, BK568, BK574, HB⟩ := n_; (try clear hb); (try clear hb2); (try clear hk); (try clear hi)))
        go_meet
        case rel => exact ⟨_, (true), (by first | rfl | (simp; done) | (simp [*]; done)), H', ⟨by have := HJ4.out; first | omega | exact Nat.le_refl _⟩, ⟨by (with_reducible repeat (first | apply Kd.R_alloc | apply Kd.R_drewN | apply Kd.R_drew)); exact Kd.R_mono HO577.out (fun _ hk => ⟨hk.1.2, hk.2⟩)⟩, ⟨by (with_reducible repeat (first | apply Kd.R_alloc | apply Kd.R_drewN | apply Kd.R_drew)); exact Kd.R_mono HO566.out (fun _ hk => ⟨hk.2, hk.1.2⟩)⟩, ⟨by (with_reducible repeat (first | apply Kd.R_alloc | apply Kd.R_drewN | apply Kd.R_drew)); exact Kd.R_mono HO572.out (fun _ hk => ⟨hk.2, hk.1.2⟩)⟩, ⟨by (with_reducible repeat (first | refine blk_drewN ?_ _ | refine blk_drew ?_ | refine blk_alloc ?_ _)); exact BK557.out⟩, ⟨by (with_reducible repeat (first | refine blk_drewN ?_ _ | refine blk_drew ?_ | refine blk_alloc ?_ _)); exact BK558.out⟩, ⟨by (with_reducible repeat (first | refine blk_drewN ?_ _ | refine blk_drew ?_ | refine blk_alloc ?_ _)); exact BK568.out⟩, ⟨by (with_reducible repeat (first | refine blk_drewN ?_ _ | refine blk_drew ?_ | refine blk_alloc ?_ _)); exact BK574.out⟩, ⟨HB_⟩⟩
      subst c57
      replace H := ps1_ H
      replace H := bd_ H
      obtain ⟨t580, A58, H⟩ := H
      (try dsimp only at H)
      have H' := Aside0.mk H
      clear H
      go_wp2_with (first | ((with_reducible refine gate_callee (f := 13) rfl ?_); refine goesL_ (some 60) rfl rfl Try.func13 (by kernel_rfl) rfl #[] rfl MP_ ?_; (with_reducible refine (warrantorlaw14_lives.calls kj4  true _ A56.out).mono ?_); rintro e w59 ⟨rfl, hb⟩; refine ⟨_, rfl, ?_⟩; have n_ := a_ (rb_ HO566 hb) (a_ (rb_ HO572 hb) (a_ (rb_ HO577 hb) (a_ (bb_ BK557 hb) (a_ (bb_ BK558 hb) (a_ (bb_ BK568 hb) (a_ (bb_ BK574 hb) (bs_ HB hb))))))); clear HO566 HO572 HO577 BK557 BK558 BK568 BK574 HB; obtain ⟨HO566, HO572, HO577, BK557, BK558, BK568, BK574, HB⟩ := n_; (try clear hb); (try clear hb2); (try clear hk); (try clear hi); have hnb60 := NB574_557.out; have hnc60 := NB557_574.out; have hnb61 := NB574_558.out; have hnc61 := NB558_574.out; have hnb62 := NB574_568.out; have hnc62 := NB568_574.out; obtain ⟨hcz63_0, hcz63_1, hfz63_0, hfz63_1⟩ := cz2_ BK574) | (go_at_call 45; (with_reducible refine (dbm_Has.calls kj4 t569 _ _ t570 _ _ l2 t580 _ ?side1 ?side2 ?side3 ?side4 A58.out).mono ?_); (case side1 => repeat (first | exact (Kd.R_reads' HO572.out).2.2 | (with_reducible refine Kd.C_alloc ?_ _) | (with_reducible refine Kd.C_drewN ?_ _) | (with_reducible refine Kd.C_drew ?_))); (case side2 => exact (Kd.R_reads' HO572.out).2.1); (case side3 => exact sd_ (Kd.C_below HR2.out HB.out)); (case side4 => exact HC2.out); rintro e w64 ⟨rfl, hb⟩; have n_ := a_ (rb_ HO566 hb) (a_ (rb_ HO572 hb) (a_ (rb_ HO577 hb) (a_ (bb_ BK557 hb) (a_ (bb_ BK558 hb) (a_ (bb_ BK568 hb) (a_ (bb_ BK574 hb) (bs_ HB hb))))))); clear HO566 HO572 HO577 BK557 BK558 BK568 BK574 HB; obtain ⟨HO566, HO572, HO577, BK557, BK558, BK568, BK574, HB⟩ := n_; (try clear hb); (try clear hb2); (try clear hk); (try clear hi)))
      go_meet
      case rel => exact ⟨_, ((t580 != (t578 == 131))), (by first | rfl | (simp; done) | (simp [*]; done)), H', ⟨by have := HJ4.out; first | omega | exact Nat.le_refl _⟩, ⟨by (with_reducible repeat (first | apply Kd.R_alloc | apply Kd.R_drewN | apply Kd.R_drew)); exact Kd.R_mono HO577.out (fun _ hk => ⟨hk.1.2, hk.2⟩)⟩, ⟨by (with_reducible repeat (first | apply Kd.R_alloc | apply Kd.R_drewN | apply Kd.R_drew)); exact Kd.R_mono HO566.out (fun _ hk => ⟨hk.2, hk.1.2⟩)⟩, ⟨by (with_reducible repeat (first | apply Kd.R_alloc | apply Kd.R_drewN | apply Kd.R_drew)); exact Kd.R_mono HO572.out (fun _ hk => ⟨hk.2, hk.1.2⟩)⟩, ⟨by (with_reducible repeat (first | refine blk_drewN ?_ _ | refine blk_drew ?_ | refine blk_alloc ?_ _)); exact BK557.out⟩, ⟨by (with_reducible repeat (first | refine blk_drewN ?_ _ | refine blk_drew ?_ | refine blk_alloc ?_ _)); exact BK558.out⟩, ⟨by (with_reducible repeat (first | refine blk_drewN ?_ _ | refine blk_drew ?_ | refine blk_alloc ?_ _)); exact BK568.out⟩, ⟨by (with_reducible repeat (first | refine blk_drewN ?_ _ | refine blk_drew ?_ | refine blk_alloc ?_ _)); exact BK574.out⟩, ⟨HB_⟩⟩
    case rest =>
      clear HC35
      try clear c1
      try clear c2
      try clear p2
      try clear c3
      try clear c4
      try clear c5
      try clear c6
      try clear c8
      try clear c9
      try clear c10
      try clear c12
      try clear c12b0
      try clear c12b1
      try clear c13
      try clear c15
      try clear c16
      try clear c16b0
      try clear c16b1
      try clear c18
      try clear c24
      try clear c28
      try clear c31
      try clear c31b0
      try clear c31b1
      try clear c36
      try clear c41
      try clear c42
      try clear c48
      try clear c49
      try clear c50
      try clear c51
      try clear c57
      try clear c60
      try clear c61
      try clear c62
      try clear hcz11_0
      try clear hcz11_1
      try clear hcz14_0
      try clear hcz14_1
      try clear hcz19_0
      try clear hcz19_1
      try clear hcz20_0
      try clear hcz20_1
      try clear hcz20_2
      try clear hcz20_3
      try clear hcz20_4
      try clear hcz22_0
      try clear hcz22_1
      try clear hcz25_0
      try clear hcz25_1
      try clear hcz26_0
      try clear hcz26_1
      try clear hcz26_2
      try clear hcz26_3
      try clear hcz26_4
      try clear hcz37_0
      try clear hcz37_1
      try clear hcz38_0
      try clear hcz38_1
      try clear hcz38_2
      try clear hcz38_3
      try clear hcz38_4
      try clear hcz43_0
      try clear hcz43_1
      try clear hcz45_0
      try clear hcz45_1
      try clear hcz46_0
      try clear hcz46_1
      try clear hcz46_2
      try clear hcz46_3
      try clear hcz46_4
      try clear hcz52_0
      try clear hcz52_1
      try clear hcz54_0
      try clear hcz54_1
      try clear hcz54_2
      try clear hcz54_3
      try clear hcz54_4
      try clear hcz63_0
      try clear hcz63_1
      try clear hfz11_0
      try clear hfz11_1
      try clear hfz14_0
      try clear hfz14_1
      try clear hfz19_0
      try clear hfz19_1
      try clear hfz20_0
      try clear hfz20_1
      try clear hfz20_2
      try clear hfz20_3
      try clear hfz20_4
      try clear hfz22_0
      try clear hfz22_1
      try clear hfz25_0
      try clear hfz25_1
      try clear hfz26_0
      try clear hfz26_1
      try clear hfz26_2
      try clear hfz26_3
      try clear hfz26_4
      try clear hfz37_0
      try clear hfz37_1
      try clear hfz38_0
      try clear hfz38_1
      try clear hfz38_2
      try clear hfz38_3
      try clear hfz38_4
      try clear hfz43_0
      try clear hfz43_1
      try clear hfz45_0
      try clear hfz45_1
      try clear hfz46_0
      try clear hfz46_1
      try clear hfz46_2
      try clear hfz46_3
      try clear hfz46_4
      try clear hfz52_0
      try clear hfz52_1
      try clear hfz54_0
      try clear hfz54_1
      try clear hfz54_2
      try clear hfz54_3
      try clear hfz54_4
      try clear hfz63_0
      try clear hfz63_1
      try clear p2
      obtain ⟨kq, x69_34, rfl, HA, HJ34, HO_13, HO_569001, HO_575001, BK557, BK558, BK568, BK574, HB⟩ := hcut
      cases kq with
      | zero => exact absurd HA.out (by simp [warrantorlaw14_PostHas.j1])
      | succ kj34 =>
        have H := HA.out
        clear HA
        simp only [warrantorlaw14_PostHas.j1] at H
        by_cases c66 : x69_34 = true
        · subst c66
          replace H := ps1_ H
          exact absurd H (by simp)
        replace c66 := Bool.eq_false_iff.mpr c66
        subst c66
        replace H := ng1_ H
        have HC67 := Aside0.mk H
        clear H
        go_upto_region 10 with (fail)
        go_cut [77] (fun v77 wc => ∃ (kq : Nat) (x77_66 : Bool), v77 = .bool x77_66 ∧ Aside0 (warrantorlaw14_PostHas.j2 kq l2 t575 t578 x77_66 t563 t564 = some r) ∧ Aside0 (kq ≤ kj34) ∧ Aside0 (Kd.R (Kd.int .i64) 3 wc w.heap.size (fun k_ => some k_ ≠ ((.slice Ao44 t564.length co44) : Value).ownBlock ∧ some k_ ≠ ((.slice Ao53 t570.length co53) : Value).ownBlock) v576 t575) ∧ Aside0 (Kd.R (Kd.int .i64) 3 wc w.heap.size (fun k_ => some k_ ≠ (v576 : Value).ownBlock ∧ some k_ ≠ ((.slice Ao53 t570.length co53) : Value).ownBlock) (.slice Ao44 t564.length co44) t564) ∧ Aside0 (Kd.R (Kd.int .i64) 3 wc w.heap.size (fun k_ => some k_ ≠ (v576 : Value).ownBlock ∧ some k_ ≠ ((.slice Ao44 t564.length co44) : Value).ownBlock) (.slice Ao53 t570.length co53) t570) ∧ Aside0 (wc.heap[gb557]? = some (.cells #[.int .i64 a0_0, (.slice A0_1 l0_1.length c0_1)] 24 (0, 0))) ∧ Aside0 (wc.heap[gb558]? = some (.cells #[.int .i64 a1_0, .int .i64 a1_1, .int .i64 a1_2, .int .i64 a1_3, .int .i64 a1_4] 26 (0, 0))) ∧ Aside0 (wc.heap[gb568]? = some (.cells #[.int .i64 t563, (.slice Ao44 t564.length co44)] 24 (0, 0))) ∧ Aside0 (wc.heap[gb574]? = some (.cells #[.int .i64 t569, (.slice Ao53 t570.length co53)] 24 (0, 0))) ∧ Aside0 (Below w.heap.size w wc))
        case first =>
          have H := HC67.out
          clear HC67
          by_cases c68 : a1_0 = 4
          rotate_left
          · rw [if_neg c68] at H
            have c68b0 : (a1_0 == 4) = false := beq_eq_false_iff_ne.mpr c68
            have c68b1 : (a1_0 != 4) = true := bne_iff_ne.mpr c68
            (first | rw [c68b0] | (simp only [i64_w, i32_w]; rw [c68b0]) | skip)
            have H' := Aside0.mk H
            clear H
            have hnb73 := NB558_557.out
            have hnc73 := NB557_558.out
            have hnb74 := NB558_568.out
            have hnc74 := NB568_558.out
            have hnb75 := NB558_574.out
            have hnc75 := NB574_558.out
            obtain ⟨hcz76_0, hcz76_1, hcz76_2, hcz76_3, hcz76_4, hfz76_0, hfz76_1, hfz76_2, hfz76_3, hfz76_4⟩ := cz5_ BK558
            go_wp2
            go_meet
            case rel => exact ⟨_, ((a1_0 == 5)), (by first | rfl | (simp; done) | (simp [*]; done)), H', ⟨by have := HJ4.out; have := HJ34.out; first | omega | exact Nat.le_refl _⟩, ⟨by (with_reducible repeat (first | apply Kd.R_alloc | apply Kd.R_drewN | apply Kd.R_drew)); exact HO_13.out⟩, ⟨by (with_reducible repeat (first | apply Kd.R_alloc | apply Kd.R_drewN | apply Kd.R_drew)); exact HO_569001.out⟩, ⟨by (with_reducible repeat (first | apply Kd.R_alloc | apply Kd.R_drewN | apply Kd.R_drew)); exact HO_575001.out⟩, ⟨by (with_reducible repeat (first | refine blk_drewN ?_ _ | refine blk_drew ?_ | refine blk_alloc ?_ _)); exact BK557.out⟩, ⟨by (with_reducible repeat (first | refine blk_drewN ?_ _ | refine blk_drew ?_ | refine blk_alloc ?_ _)); exact BK558.out⟩, ⟨by (with_reducible repeat (first | refine blk_drewN ?_ _ | refine blk_drew ?_ | refine blk_alloc ?_ _)); exact BK568.out⟩, ⟨by (with_reducible repeat (first | refine blk_drewN ?_ _ | refine blk_drew ?_ | refine blk_alloc ?_ _)); exact BK574.out⟩, ⟨HB_⟩⟩
          rw [if_pos c68] at H
          have c68b0 : (a1_0 == 4) = true := beq_iff_eq.mpr c68
          have c68b1 : (a1_0 != 4) = false := bne_eq_false_iff_eq.mpr c68
          clear c68
          (first | rw [c68b0] | (simp only [i64_w, i32_w]; rw [c68b0]) | skip)
          have H' := Aside0.mk H
          clear H
          have hnb69 := NB558_557.out
          have hnc69 := NB557_558.out
          have hnb70 := NB558_568.out
          have hnc70 := NB568_558.out
          have hnb71 := NB558_574.out
          have hnc71 := NB574_558.out
          obtain ⟨hcz72_0, hcz72_1, hcz72_2, hcz72_3, hcz72_4, hfz72_0, hfz72_1, hfz72_2, hfz72_3, hfz72_4⟩ := cz5_ BK558
          go_wp2
          go_meet
          case rel => exact ⟨_, (true), (by first | rfl | (simp; done) | (simp [*]; done)), H', ⟨by have := HJ4.out; have := HJ34.out; first | omega | exact Nat.le_refl _⟩, ⟨by (with_reducible repeat (first | apply Kd.R_alloc | apply Kd.R_drewN | apply Kd.R_drew)); exact HO_13.out⟩, ⟨by (with_reducible repeat (first | apply Kd.R_alloc | apply Kd.R_drewN | apply Kd.R_drew)); exact HO_569001.out⟩, ⟨by (with_reducible repeat (first | apply Kd.R_alloc | apply Kd.R_drewN | apply Kd.R_drew)); exact HO_575001.out⟩, ⟨by (with_reducible repeat (first | refine blk_drewN ?_ _ | refine blk_drew ?_ | refine blk_alloc ?_ _)); exact BK557.out⟩, ⟨by (with_reducible repeat (first | refine blk_drewN ?_ _ | refine blk_drew ?_ | refine blk_alloc ?_ _)); exact BK558.out⟩, ⟨by (with_reducible repeat (first | refine blk_drewN ?_ _ | refine blk_drew ?_ | refine blk_alloc ?_ _)); exact BK568.out⟩, ⟨by (with_reducible repeat (first | refine blk_drewN ?_ _ | refine blk_drew ?_ | refine blk_alloc ?_ _)); exact BK574.out⟩, ⟨HB_⟩⟩
        case rest =>
          clear HC67
          try clear c1
          try clear c2
          try clear p2
          try clear c3
          try clear c4
          try clear c5
          try clear c6
          try clear c7
          try clear c8
          try clear c9
          try clear c10
          try clear c12
          try clear c12b0
          try clear c12b1
          try clear c13
          try clear c15
          try clear c16
          try clear c16b0
          try clear c16b1
          try clear c18
          try clear c24
          try clear c28
          try clear c31
          try clear c31b0
          try clear c31b1
          try clear c36
          try clear c41
          try clear c42
          try clear c48
          try clear c49
          try clear c50
          try clear c51
          try clear c57
          try clear c60
          try clear c61
          try clear c62
          try clear c66
          try clear c68
          try clear c68b0
          try clear c68b1
          try clear c69
          try clear c70
          try clear c71
          try clear c73
          try clear c74
          try clear c75
          try clear hcz11_0
          try clear hcz11_1
          try clear hcz14_0
          try clear hcz14_1
          try clear hcz19_0
          try clear hcz19_1
          try clear hcz20_0
          try clear hcz20_1
          try clear hcz20_2
          try clear hcz20_3
          try clear hcz20_4
          try clear hcz22_0
          try clear hcz22_1
          try clear hcz25_0
          try clear hcz25_1
          try clear hcz26_0
          try clear hcz26_1
          try clear hcz26_2
          try clear hcz26_3
          try clear hcz26_4
          try clear hcz37_0
          try clear hcz37_1
          try clear hcz38_0
          try clear hcz38_1
          try clear hcz38_2
          try clear hcz38_3
          try clear hcz38_4
          try clear hcz43_0
          try clear hcz43_1
          try clear hcz45_0
          try clear hcz45_1
          try clear hcz46_0
          try clear hcz46_1
          try clear hcz46_2
          try clear hcz46_3
          try clear hcz46_4
          try clear hcz52_0
          try clear hcz52_1
          try clear hcz54_0
          try clear hcz54_1
          try clear hcz54_2
          try clear hcz54_3
          try clear hcz54_4
          try clear hcz63_0
          try clear hcz63_1
          try clear hcz72_0
          try clear hcz72_1
          try clear hcz72_2
          try clear hcz72_3
          try clear hcz72_4
          try clear hcz76_0
          try clear hcz76_1
          try clear hcz76_2
          try clear hcz76_3
          try clear hcz76_4
          try clear hfz11_0
          try clear hfz11_1
          try clear hfz14_0
          try clear hfz14_1
          try clear hfz19_0
          try clear hfz19_1
          try clear hfz20_0
          try clear hfz20_1
          try clear hfz20_2
          try clear hfz20_3
          try clear hfz20_4
          try clear hfz22_0
          try clear hfz22_1
          try clear hfz25_0
          try clear hfz25_1
          try clear hfz26_0
          try clear hfz26_1
          try clear hfz26_2
          try clear hfz26_3
          try clear hfz26_4
          try clear hfz37_0
          try clear hfz37_1
          try clear hfz38_0
          try clear hfz38_1
          try clear hfz38_2
          try clear hfz38_3
          try clear hfz38_4
          try clear hfz43_0
          try clear hfz43_1
          try clear hfz45_0
          try clear hfz45_1
          try clear hfz46_0
          try clear hfz46_1
          try clear hfz46_2
          try clear hfz46_3
          try clear hfz46_4
          try clear hfz52_0
          try clear hfz52_1
          try clear hfz54_0
          try clear hfz54_1
          try clear hfz54_2
          try clear hfz54_3
          try clear hfz54_4
          try clear hfz63_0
          try clear hfz63_1
          try clear hfz72_0
          try clear hfz72_1
          try clear hfz72_2
          try clear hfz72_3
          try clear hfz72_4
          try clear hfz76_0
          try clear hfz76_1
          try clear hfz76_2
          try clear hfz76_3
          try clear hfz76_4
          try clear p2
          obtain ⟨kq, x77_66, rfl, HA, HJ66, HO_13, HO_569001, HO_575001, BK557, BK558, BK568, BK574, HB⟩ := hcut
          cases kq with
          | zero => exact absurd HA.out (by simp [warrantorlaw14_PostHas.j2])
          | succ kj66 =>
            have H := HA.out
            clear HA
            simp only [warrantorlaw14_PostHas.j2] at H
            by_cases c77 : x77_66 = true
            · subst c77
              replace H := ps1_ H
              replace H := bd_ H
              obtain ⟨t581, A78, H⟩ := H
              (try dsimp only at H)
              obtain rfl := Option.some.inj H
              have hnb79 := NB568_557.out
              have hnc79 := NB557_568.out
              have hnb80 := NB568_558.out
              have hnc80 := NB558_568.out
              have hnb81 := NB568_574.out
              have hnc81 := NB574_568.out
              obtain ⟨hcz82_0, hcz82_1, hfz82_0, hfz82_1⟩ := cz2_ BK568
              go_wp2_with (first | ((with_reducible refine gate_callee (f := 45) rfl ?_); refine goesL_ (some 80) rfl rfl Try.func45 (by kernel_rfl) rfl #[.agg #[.int .i64 t563, .slice Ao44 t564.length co44], .slice A2 l2.length c2] rfl MP_ ?_; (with_reducible refine (dbm_Has.calls kj66 t563 _ _ t564 _ _ l2 t581 _ ?side1 ?side2 ?side3 ?side4 A78.out).mono ?_); (case side1 => repeat (first | exact (Kd.R_reads' HO_569001.out).2.2 | (with_reducible refine Kd.C_alloc ?_ _) | (with_reducible refine Kd.C_drewN ?_ _) | (with_reducible refine Kd.C_drew ?_))); (case side2 => exact (Kd.R_reads' HO_569001.out).2.1); (case side3 => exact sd_ (Kd.C_below HR2.out HB.out)); (case side4 => exact HC2.out); rintro e w83 ⟨rfl, hb⟩; refine ⟨_, rfl, ?_⟩; have n_ := a_ (rb_ HO_13 hb) (a_ (rb_ HO_569001 hb) (a_ (rb_ HO_575001 hb) (a_ (bb_ BK557 hb) (a_ (bb_ BK558 hb) (a_ (bb_ BK568 hb) (a_ (bb_ BK574 hb) (bs_ HB hb))))))); clear HO_13 HO_569001 HO_575001 BK557 BK558 BK568 BK574 HB; obtain ⟨HO_13, HO_569001, HO_575001, BK557, BK558, BK568, BK574, HB⟩ := n_; (try clear hb); (try clear hb2); (try clear hk); (try clear hi)))
              go_ret
              exact ⟨by first | rfl | (simp [errW_none, errW_some] <;> rfl) | (simp [*, errW_none, errW_some] <;> rfl), HB_⟩
            replace c77 := Bool.eq_false_iff.mpr c77
            subst c77
            replace H := ng1_ H
            by_cases c84 : t578 = 0
            rotate_left
            · rw [if_neg c84] at H
              have c84b0 : (t578 == 0) = false := beq_eq_false_iff_ne.mpr c84
              have c84b1 : (t578 != 0) = true := bne_iff_ne.mpr c84
              obtain rfl := Option.some.inj H
              go_wp2
              go_ret
              exact ⟨by first | rfl | (simp [errW_none, errW_some] <;> rfl) | (simp [*, errW_none, errW_some] <;> rfl), HB_⟩
            rw [if_pos c84] at H
            have c84b0 : (t578 == 0) = true := beq_iff_eq.mpr c84
            have c84b1 : (t578 != 0) = false := bne_eq_false_iff_eq.mpr c84
            clear c84
            replace H := bd_ H
            obtain ⟨t582, A85, H⟩ := H
            (try dsimp only at H)
            obtain rfl := Option.some.inj H
            have hnb86 := NB568_557.out
            have hnc86 := NB557_568.out
            have hnb87 := NB568_558.out
            have hnc87 := NB558_568.out
            have hnb88 := NB568_574.out
            have hnc88 := NB574_568.out
            obtain ⟨hcz89_0, hcz89_1, hfz89_0, hfz89_1⟩ := cz2_ BK568
            obtain ⟨Ao90, co90, eo90⟩ := Kd.R_slice HO_13.out
            subst eo90
            go_wp2_with (first | (go_at_call 45; (with_reducible refine (dbm_Has.calls kj66 t563 _ _ t564 _ _ t575 t582 _ ?side1 ?side2 ?side3 ?side4 A85.out).mono ?_); (case side1 => repeat (first | exact (Kd.R_reads' HO_569001.out).2.2 | (with_reducible refine Kd.C_alloc ?_ _) | (with_reducible refine Kd.C_drewN ?_ _) | (with_reducible refine Kd.C_drew ?_))); (case side2 => exact (Kd.R_reads' HO_569001.out).2.1); (case side3 => repeat (first | exact (Kd.R_reads' HO_13.out).2.2 | (with_reducible refine Kd.C_alloc ?_ _) | (with_reducible refine Kd.C_drewN ?_ _) | (with_reducible refine Kd.C_drew ?_))); (case side4 => exact (Kd.R_reads' HO_13.out).2.1); rintro e w91 ⟨rfl, hb⟩; have n_ := a_ (rb_ HO_13 hb) (a_ (rb_ HO_569001 hb) (a_ (rb_ HO_575001 hb) (a_ (bb_ BK557 hb) (a_ (bb_ BK558 hb) (a_ (bb_ BK568 hb) (a_ (bb_ BK574 hb) (bs_ HB hb))))))); clear HO_13 HO_569001 HO_575001 BK557 BK558 BK568 BK574 HB; obtain ⟨HO_13, HO_569001, HO_575001, BK557, BK558, BK568, BK574, HB⟩ := n_; (try clear hb); (try clear hb2); (try clear hk); (try clear hi)))
            go_ret
            exact ⟨by first | rfl | (simp [errW_none, errW_some] <;> rfl) | (simp [*, errW_none, errW_some] <;> rfl), HB_⟩
/-- THE ONE PURE STATEMENT of warrantorlaw14_PostHas: yours. -/
def warrantorlaw14_PostHas.Pure : Prop := ∀ (a0_0 : Int) (l0_1 : List Int) (a1_0 : Int) (a1_1 : Int) (a1_2 : Int) (a1_3 : Int) (a1_4 : Int) (l2 : List Int) (a3 : Int), (Lit.int .i64 a0_0).wf = true → l0_1.length ≤ maxLen → l0_1.length * 8 ≤ 140737488351232 → (∀ x ∈ l0_1, (Lit.int .i64 x).wf = true) → (Lit.int .i64 a1_0).wf = true → (Lit.int .i64 a1_1).wf = true → (Lit.int .i64 a1_2).wf = true → (Lit.int .i64 a1_3).wf = true → (Lit.int .i64 a1_4).wf = true → l2.length ≤ maxLen → l2.length * 8 ≤ 140737488351232 → (∀ x ∈ l2, (Lit.int .i64 x).wf = true) → (Lit.int .i64 a3).wf = true → ∃ k, warrantorlaw14_PostHas.f k a0_0 l0_1 a1_0 a1_1 a1_2 a1_3 a1_4 l2 a3 = some true
theorem warrantorlaw14_PostHas.walk (P : warrantorlaw14_PostHas.Pure) (a0_0 : Int) (a0_1 : Option Addr) (len0_1 cap0_1 : Nat) (z0_1 : List Int) (a1_0 : Int) (a1_1 : Int) (a1_2 : Int) (a1_3 : Int) (a1_4 : Int) (a2 : Option Addr) (len2 cap2 : Nat) (z2 : List Int) (a3 : Int) (w : World) (w0_0 : (Lit.int .i64 a0_0).wf = true) (w0_1 : (a0_1 = none ∧ len0_1 = 0 ∧ cap0_1 = 0 ∧ z0_1 = []) ∨ ∃ x, a0_1 = some x ∧ len0_1 ≤ cap0_1 ∧ cap0_1 ≤ maxLen ∧ z0_1.length = cap0_1 ∧ (∀ i, i < z0_1.length → w.cell? (x.add i) = some (.int .i64 (z0_1.getD i 0))) ∧ ∀ n ∈ z0_1, (Lit.int .i64 n).wf = true) (y0_1 : len0_1 * 8 ≤ 140737488351232) (w1_0 : (Lit.int .i64 a1_0).wf = true) (w1_1 : (Lit.int .i64 a1_1).wf = true) (w1_2 : (Lit.int .i64 a1_2).wf = true) (w1_3 : (Lit.int .i64 a1_3).wf = true) (w1_4 : (Lit.int .i64 a1_4).wf = true) (w2 : (a2 = none ∧ len2 = 0 ∧ cap2 = 0 ∧ z2 = []) ∨ ∃ x, a2 = some x ∧ len2 ≤ cap2 ∧ cap2 ≤ maxLen ∧ z2.length = cap2 ∧ (∀ i, i < z2.length → w.cell? (x.add i) = some (.int .i64 (z2.getD i 0))) ∧ ∀ n ∈ z2, (Lit.int .i64 n).wf = true) (y2 : len2 * 8 ≤ 140737488351232) (w3 : (Lit.int .i64 a3).wf = true) :
  Calls Try.prog 8 #[.agg #[.int .i64 a0_0, .slice a0_1 len0_1 cap0_1], .agg #[.int .i64 a1_0, .int .i64 a1_1, .int .i64 a1_2, .int .i64 a1_3, .int .i64 a1_4], .slice a2 len2 cap2, .int .i64 a3] w fun e w' => e = .returned (.bool true) ∧ Below w.heap.size w w' := by
 obtain ⟨l0_1, rfl, hr0_1, hm0_1, hw0_1, hc0_1⟩ := ReadsInt.ofRowC w0_1
 obtain ⟨l2, rfl, hr2, hm2, hw2, hc2⟩ := ReadsInt.ofRowC w2
 obtain ⟨k, h⟩ := P a0_0 l0_1 a1_0 a1_1 a1_2 a1_3 a1_4 l2 a3 w0_0 hm0_1 y0_1 hw0_1 w1_0 w1_1 w1_2 w1_3 w1_4 hm2 y2 hw2 w3
 refine (warrantorlaw14_PostHas.calls k a0_0 _ _ l0_1 a1_0 a1_1 a1_2 a1_3 a1_4 _ _ l2 a3 true w (Kd.C_of_reads (d := (0 : Int)) (h1 := fun _ => rfl) hr0_1) hc0_1 (Kd.C_of_reads (d := (0 : Int)) (h1 := fun _ => rfl) hr2) hc2 h).mono ?_
 rintro e w' ⟨rfl, hd⟩
 exact ⟨rfl, hd⟩
end Go.Proofs.Ytgeemdpflcefkaa.Y

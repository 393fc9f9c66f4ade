import Derived.Test.YtgeemdpflcefkaaYx0
import Derived.Test.YtgeemdpflcefkaaYx3
import Derived.Test.YtgeemdpflcefkaaYx15
import Derived.Test.YtgeemdpflcefkaaYx28
import Derived.Test.YtgeemdpflcefkaaYx32
import Derived.Test.YtgeemdpflcefkaaYx35
namespace Go.Proofs.Ytgeemdpflcefkaa.Y
open Go.RowKit Go.Proofs.YtgeemdpflcefkaaW.PrintWords Go.Proofs.YtgeemdpflcefkaaW.PrintLast Go.Proofs.YtgeemdpflcefkaaW.PrintMore
attribute [local go_sem] max2_int min2_int max_two min_two max_three min_three max_four min_four   -- for this text's walks alone
set_option linter.unusedVariables false
set_option linter.unusedSimpArgs false
def warrantorlaw14_PostRises.j0 : Nat → Bool → Int → List Int → Int → List Int → Int → Int → Int → Int → Int → Option (Bool)
 | 0, _, _, _, _, _, _, _, _, _, _ => none
 | k + 1, x34, x506000, x506001, x507000, x507001, x508000, x508001, x508002, x508003, x508004 => if x34 = true then ((warrantorlaw14_lives.f k).bind fun t512 => (some t512)) else ((zone_Join.f k x506000 x506001 x507000 x507001).bind fun bt513 => ((post_Post.f k x506000 x506001 x508000 x508001 x508002 x508003 x508004).bind fun bt519 => ((post_Post.f k bt513.1 bt513.2.1 x508000 x508001 x508002 x508003 x508004).bind fun bt525 => ((zone_Leq.f k bt519.1 bt519.2.1 bt525.1 bt525.2.1).bind fun bt531 => ((warrantorlaw14_lives.f k).bind fun t533 => (if t533 = true then (if bt519.2.2 = 0 then (if bt525.2.2 = 0 then (if bt531.2 = 0 then (some bt531.1) else (none)) else (none)) else (none)) else (none)))))))
def warrantorlaw14_PostRises.f (k : Nat) (a0_0 : Int) (l0_1 : List Int) (a1_0 : Int) (l1_1 : List Int) (a2_0 : Int) (a2_1 : Int) (a2_2 : Int) (a2_3 : Int) (a2_4 : Int) : Option (Bool) := (warrantorref08_Large.f l0_1).bind fun t508 => (if t508 = true then (warrantorlaw14_PostRises.j0 k true a0_0 l0_1 a1_0 l1_1 a2_0 a2_1 a2_2 a2_3 a2_4) else ((warrantorref08_Large.f l1_1).bind fun t509 => (if t509 = true then (warrantorlaw14_PostRises.j0 k true a0_0 l0_1 a1_0 l1_1 a2_0 a2_1 a2_2 a2_3 a2_4) else ((warrantorref09_Two.f k a0_0 l0_1 a1_0 l1_1).bind fun t510 => (if t510 = 0 then ((warrantorref14_Check.f k a0_0 l0_1 a2_0 a2_1 a2_2 a2_3 a2_4).bind fun t511 => (warrantorlaw14_PostRises.j0 k (t511 != 0) a0_0 l0_1 a1_0 l1_1 a2_0 a2_1 a2_2 a2_3 a2_4)) else (warrantorlaw14_PostRises.j0 k true a0_0 l0_1 a1_0 l1_1 a2_0 a2_1 a2_2 a2_3 a2_4))))))
set_option maxHeartbeats 8000000 in
set_option maxRecDepth 100000 in
theorem warrantorlaw14_PostRises.calls (k : Nat) (a0_0 : Int) (A0_1 : Option Addr) (c0_1 : Nat) (l0_1 : List Int) (a1_0 : Int) (A1_1 : Option Addr) (c1_1 : Nat) (l1_1 : List Int) (a2_0 : Int) (a2_1 : Int) (a2_2 : Int) (a2_3 : Int) (a2_4 : Int) (r : Bool) (w : World) (hr0_1 : Kd.C (Kd.int .i64) w A0_1 l0_1.length l0_1) (hc0_1 : l0_1.length ≤ c0_1) (hr1_1 : Kd.C (Kd.int .i64) w A1_1 l1_1.length l1_1) (hc1_1 : l1_1.length ≤ c1_1) (h : warrantorlaw14_PostRises.f k a0_0 l0_1 a1_0 l1_1 a2_0 a2_1 a2_2 a2_3 a2_4 = some r) :
  Calls Try.prog 5 #[.agg #[.int .i64 a0_0, .slice A0_1 l0_1.length c0_1], .agg #[.int .i64 a1_0, .slice A1_1 l1_1.length c1_1], .agg #[.int .i64 a2_0, .int .i64 a2_1, .int .i64 a2_2, .int .i64 a2_3, .int .i64 a2_4]] w fun e w' => e = .returned (.bool r) ∧ Below w.heap.size w w' := by
 have hu24 := Try.underlying24
 have hu26 := Try.underlying26
 have HR0_1 := Aside0.mk hr0_1
 have HC0_1 := Aside0.mk hc0_1
 clear hr0_1 hc0_1
 have HR1_1 := Aside0.mk hr1_1
 have HC1_1 := Aside0.mk hc1_1
 clear hr1_1 hc1_1
 have HB := Aside0.mk (Below.refl w.heap.size w)
 have H : ((warrantorref08_Large.f l0_1).bind fun t508 => (if t508 = true then (warrantorlaw14_PostRises.j0 k true a0_0 l0_1 a1_0 l1_1 a2_0 a2_1 a2_2 a2_3 a2_4) else ((warrantorref08_Large.f l1_1).bind fun t509 => (if t509 = true then (warrantorlaw14_PostRises.j0 k true a0_0 l0_1 a1_0 l1_1 a2_0 a2_1 a2_2 a2_3 a2_4) else ((warrantorref09_Two.f k a0_0 l0_1 a1_0 l1_1).bind fun t510 => (if t510 = 0 then ((warrantorref14_Check.f k a0_0 l0_1 a2_0 a2_1 a2_2 a2_3 a2_4).bind fun t511 => (warrantorlaw14_PostRises.j0 k (t511 != 0) a0_0 l0_1 a1_0 l1_1 a2_0 a2_1 a2_2 a2_3 a2_4)) else (warrantorlaw14_PostRises.j0 k true a0_0 l0_1 a1_0 l1_1 a2_0 a2_1 a2_2 a2_3 a2_4))))))) = some r := h
 clear h
 have HC4 := Aside0.mk H
 clear H
 go_enter Try.func5, Try.ntmps5
 go_upto_region 1 with (first | ((with_reducible refine gate_dst (N := 3) rfl ?_); refine bx_ (N := 3) (cs := #[.int .i64 a0_0, .slice A0_1 l0_1.length c0_1]) (t := 24) ?_; intro gb505 hg w5 hbox hb; have n_ := a_ (bs_ HB hb) (a_ (Aside0.mk hbox) (a_ (gs_ HB hg) (gs_ HB hg))); clear HB; obtain ⟨HB, BK505, GW505, GE505⟩ := n_; clear hb hbox hg) | ((with_reducible refine gate_dst (N := 4) rfl ?_); refine bx_ (N := 4) (cs := #[.int .i64 a1_0, .slice A1_1 l1_1.length c1_1]) (t := 24) ?_; intro gb506 hg w6 hbox hb; have n_ := a_ (bb_ BK505 hb) (a_ (bs_ HB hb) (a_ (Aside0.mk hbox) (a_ (gs_ HB hg) (a_ (gs_ HB hg) (a_ (nl_ BK505 hg) (ng_ BK505 hg)))))); clear BK505 HB; obtain ⟨BK505, HB, BK506, GW506, GE506, NB505_506, NB506_505⟩ := n_; clear hb hbox hg) | ((with_reducible refine gate_dst (N := 5) rfl ?_); refine bx_ (N := 5) (cs := #[.int .i64 a2_0, .int .i64 a2_1, .int .i64 a2_2, .int .i64 a2_3, .int .i64 a2_4]) (t := 26) ?_; intro gb507 hg w7 hbox hb; have n_ := a_ (bb_ BK505 hb) (a_ (bb_ BK506 hb) (a_ (bs_ HB hb) (a_ (Aside0.mk hbox) (a_ (gs_ HB hg) (a_ (gs_ HB hg) (a_ (nl_ BK505 hg) (a_ (ng_ BK505 hg) (a_ (nl_ BK506 hg) (ng_ BK506 hg))))))))); clear BK505 BK506 HB; obtain ⟨BK505, BK506, HB, BK507, GW507, GE507, NB505_507, NB507_505, NB506_507, NB507_506⟩ := n_; clear hb hbox hg))
 (try simp only [Act.put, List.setIfInBounds_toArray, List.set_cons_zero, List.set_cons_succ])
 go_cut [34] (fun v34 wc => ∃ (kq : Nat) (x34_3 : Bool), v34 = .bool x34_3 ∧ Aside0 (warrantorlaw14_PostRises.j0 kq x34_3 a0_0 l0_1 a1_0 l1_1 a2_0 a2_1 a2_2 a2_3 a2_4 = some r) ∧ Aside0 (kq ≤ k) ∧ Aside0 (wc.heap[gb505]? = some (.cells #[.int .i64 a0_0, (.slice A0_1 l0_1.length c0_1)] 24 (0, 0))) ∧ Aside0 (wc.heap[gb506]? = some (.cells #[.int .i64 a1_0, (.slice A1_1 l1_1.length c1_1)] 24 (0, 0))) ∧ Aside0 (wc.heap[gb507]? = some (.cells #[.int .i64 a2_0, .int .i64 a2_1, .int .i64 a2_2, .int .i64 a2_3, .int .i64 a2_4] 26 (0, 0))) ∧ Aside0 (Below w.heap.size w wc))
 case first =>
  have H := HC4.out
  clear HC4
  replace H := bd_ H
  obtain ⟨t508, A8, H⟩ := H
  (try dsimp only at H)
  by_cases c9 : t508 = true
  · subst c9
    replace H := ps1_ H
    have H' := Aside0.mk H
    clear H
    have hnb10 := NB505_506.out
    have hnc10 := NB506_505.out
    have hnb11 := NB505_507.out
    have hnc11 := NB507_505.out
    obtain ⟨hcz12_0, hcz12_1, hfz12_0, hfz12_1⟩ := cz2_ BK505
    go_wp2_with (first | ((with_reducible refine gate_callee (f := 12) rfl ?_); refine goesL_ (some 17) rfl rfl Try.func12 (by kernel_rfl) rfl #[.slice A0_1 l0_1.length c0_1] rfl MP_ ?_; (with_reducible refine (warrantorref08_Large.calls _ _ l0_1 true _ ?side1 ?side2 A8.out).mono ?_); (case side1 => exact sd_ (Kd.C_below HR0_1.out HB.out)); (case side2 => exact HC0_1.out); rintro e w' ⟨rfl, ⟨nd, rfl⟩⟩; refine ⟨_, rfl, ?_⟩))
    go_meet
    case rel => exact ⟨_, (true), (by first | rfl | (simp; done) | (simp [*]; done)), H', ⟨by first | omega | exact Nat.le_refl _⟩, ⟨by (with_reducible repeat (first | refine blk_drewN ?_ _ | refine blk_drew ?_ | refine blk_alloc ?_ _)); exact BK505.out⟩, ⟨by (with_reducible repeat (first | refine blk_drewN ?_ _ | refine blk_drew ?_ | refine blk_alloc ?_ _)); exact BK506.out⟩, ⟨by (with_reducible repeat (first | refine blk_drewN ?_ _ | refine blk_drew ?_ | refine blk_alloc ?_ _)); exact BK507.out⟩, ⟨HB_⟩⟩
  replace c9 := Bool.eq_false_iff.mpr c9
  subst c9
  replace H := ng1_ H
  replace H := bd_ H
  obtain ⟨t509, A13, H⟩ := H
  (try dsimp only at H)
  by_cases c14 : t509 = true
  · subst c14
    replace H := ps1_ H
    have H' := Aside0.mk H
    clear H
    have hnb15 := NB505_506.out
    have hnc15 := NB506_505.out
    have hnb16 := NB505_507.out
    have hnc16 := NB507_505.out
    obtain ⟨hcz17_0, hcz17_1, hfz17_0, hfz17_1⟩ := cz2_ BK505
    go_wp2_with (first | ((with_reducible refine gate_callee (f := 12) rfl ?_); refine goesL_ (some 17) rfl rfl Try.func12 (by kernel_rfl) rfl #[.slice A0_1 l0_1.length c0_1] rfl MP_ ?_; (with_reducible refine (warrantorref08_Large.calls _ _ l0_1 false _ ?side1 ?side2 A8.out).mono ?_); (case side1 => exact sd_ (Kd.C_below HR0_1.out HB.out)); (case side2 => exact HC0_1.out); rintro e w' ⟨rfl, ⟨nd, rfl⟩⟩; refine ⟨_, rfl, ?_⟩; have hnb18 := NB506_507.out; have hnc18 := NB507_506.out; obtain ⟨hcz19_0, hcz19_1, hfz19_0, hfz19_1⟩ := cz2_ BK506; (try clear A8)) | (go_at_call 12; (with_reducible refine (warrantorref08_Large.calls _ _ l1_1 true _ ?side1 ?side2 A13.out).mono ?_); (case side1 => repeat (first | exact (Kd.C_below HR1_1.out HB_) | (with_reducible refine Kd.C_alloc ?_ _) | (with_reducible refine Kd.C_drewN ?_ _) | (with_reducible refine Kd.C_drew ?_))); (case side2 => exact HC1_1.out); rintro e w' ⟨rfl, ⟨nd, rfl⟩⟩))
    go_meet
    case rel => exact ⟨_, (true), (by first | rfl | (simp; done) | (simp [*]; done)), H', ⟨by first | omega | exact Nat.le_refl _⟩, ⟨by (with_reducible repeat (first | refine blk_drewN ?_ _ | refine blk_drew ?_ | refine blk_alloc ?_ _)); exact BK505.out⟩, ⟨by (with_reducible repeat (first | refine blk_drewN ?_ _ | refine blk_drew ?_ | refine blk_alloc ?_ _)); exact BK506.out⟩, ⟨by (with_reducible repeat (first | refine blk_drewN ?_ _ | refine blk_drew ?_ | refine blk_alloc ?_ _)); exact BK507.out⟩, ⟨HB_⟩⟩
  replace c14 := Bool.eq_false_iff.mpr c14
  subst c14
  replace H := ng1_ H
  replace H := bd_ H
  obtain ⟨t510, A20, H⟩ := H
  (try dsimp only at H)
  by_cases c21 : t510 = 0
  rotate_left
  · rw [if_neg c21] at H
    have c21b0 : (t510 == 0) = false := beq_eq_false_iff_ne.mpr c21
    have c21b1 : (t510 != 0) = true := bne_iff_ne.mpr c21
    (first | rw [c21b0] | (simp only [i64_w, i32_w]; rw [c21b0]) | skip)
    have H' := Aside0.mk H
    clear H
    have hnb32 := NB505_506.out
    have hnc32 := NB506_505.out
    have hnb33 := NB505_507.out
    have hnc33 := NB507_505.out
    obtain ⟨hcz34_0, hcz34_1, hfz34_0, hfz34_1⟩ := cz2_ BK505
    go_wp2_with (first | ((with_reducible refine gate_callee (f := 12) rfl ?_); refine goesL_ (some 17) rfl rfl Try.func12 (by kernel_rfl) rfl #[.slice A0_1 l0_1.length c0_1] rfl MP_ ?_; (with_reducible refine (warrantorref08_Large.calls _ _ l0_1 false _ ?side1 ?side2 A8.out).mono ?_); (case side1 => exact sd_ (Kd.C_below HR0_1.out HB.out)); (case side2 => exact HC0_1.out); rintro e w' ⟨rfl, ⟨nd, rfl⟩⟩; refine ⟨_, rfl, ?_⟩; have hnb35 := NB506_507.out; have hnc35 := NB507_506.out; obtain ⟨hcz36_0, hcz36_1, hfz36_0, hfz36_1⟩ := cz2_ BK506; (try clear A8)) | (go_at_call 12; (with_reducible refine (warrantorref08_Large.calls _ _ l1_1 false _ ?side1 ?side2 A13.out).mono ?_); (case side1 => repeat (first | exact (Kd.C_below HR1_1.out HB_) | (with_reducible refine Kd.C_alloc ?_ _) | (with_reducible refine Kd.C_drewN ?_ _) | (with_reducible refine Kd.C_drew ?_))); (case side2 => exact HC1_1.out); rintro e w' ⟨rfl, ⟨nd, rfl⟩⟩) | (go_at_call 34; (with_reducible refine (warrantorref09_Two.calls k a0_0 _ _ l0_1 a1_0 _ _ l1_1 t510 _ ?side1 ?side2 ?side3 ?side4 A20.out).mono ?_); (case side1 => repeat (first | exact (Kd.C_below HR0_1.out HB_) | (with_reducible refine Kd.C_alloc ?_ _) | (with_reducible refine Kd.C_drewN ?_ _) | (with_reducible refine Kd.C_drew ?_))); (case side2 => exact HC0_1.out); (case side3 => repeat (first | exact (Kd.C_below HR1_1.out HB_) | (with_reducible refine Kd.C_alloc ?_ _) | (with_reducible refine Kd.C_drewN ?_ _) | (with_reducible refine Kd.C_drew ?_))); (case side4 => exact HC1_1.out); rintro e w37 ⟨rfl, hb⟩; have n_ := a_ (bb_ BK505 hb) (a_ (bb_ BK506 hb) (a_ (bb_ BK507 hb) (bs_ HB hb))); clear BK505 BK506 BK507 HB; obtain ⟨BK505, BK506, BK507, HB⟩ := n_; (try clear hb); (try clear hb2); (try clear hk); (try clear hi)))
    go_meet
    case rel => exact ⟨_, (true), (by first | rfl | (simp; done) | (simp [*]; done)), H', ⟨by first | omega | exact Nat.le_refl _⟩, ⟨by (with_reducible repeat (first | refine blk_drewN ?_ _ | refine blk_drew ?_ | refine blk_alloc ?_ _)); exact BK505.out⟩, ⟨by (with_reducible repeat (first | refine blk_drewN ?_ _ | refine blk_drew ?_ | refine blk_alloc ?_ _)); exact BK506.out⟩, ⟨by (with_reducible repeat (first | refine blk_drewN ?_ _ | refine blk_drew ?_ | refine blk_alloc ?_ _)); exact BK507.out⟩, ⟨HB_⟩⟩
  rw [if_pos c21] at H
  have c21b0 : (t510 == 0) = true := beq_iff_eq.mpr c21
  have c21b1 : (t510 != 0) = false := bne_eq_false_iff_eq.mpr c21
  clear c21
  (first | rw [c21b0] | (simp only [i64_w, i32_w]; rw [c21b0]) | skip)
  replace H := bd_ H
  obtain ⟨t511, A22, H⟩ := H
  (try dsimp only at H)
  have H' := Aside0.mk H
  clear H
  have hnb23 := NB505_506.out
  have hnc23 := NB506_505.out
  have hnb24 := NB505_507.out
  have hnc24 := NB507_505.out
  obtain ⟨hcz25_0, hcz25_1, hfz25_0, hfz25_1⟩ := cz2_ BK505
  go_wp2_with (first | ((with_reducible refine gate_callee (f := 12) rfl ?_); refine goesL_ (some 17) rfl rfl Try.func12 (by kernel_rfl) rfl #[.slice A0_1 l0_1.length c0_1] rfl MP_ ?_; (with_reducible refine (warrantorref08_Large.calls _ _ l0_1 false _ ?side1 ?side2 A8.out).mono ?_); (case side1 => exact sd_ (Kd.C_below HR0_1.out HB.out)); (case side2 => exact HC0_1.out); rintro e w' ⟨rfl, ⟨nd, rfl⟩⟩; refine ⟨_, rfl, ?_⟩; have hnb26 := NB506_507.out; have hnc26 := NB507_506.out; obtain ⟨hcz27_0, hcz27_1, hfz27_0, hfz27_1⟩ := cz2_ BK506; (try clear A8)) | (go_at_call 12; (with_reducible refine (warrantorref08_Large.calls _ _ l1_1 false _ ?side1 ?side2 A13.out).mono ?_); (case side1 => repeat (first | exact (Kd.C_below HR1_1.out HB_) | (with_reducible refine Kd.C_alloc ?_ _) | (with_reducible refine Kd.C_drewN ?_ _) | (with_reducible refine Kd.C_drew ?_))); (case side2 => exact HC1_1.out); rintro e w' ⟨rfl, ⟨nd, rfl⟩⟩) | (go_at_call 34; (with_reducible refine (warrantorref09_Two.calls k a0_0 _ _ l0_1 a1_0 _ _ l1_1 t510 _ ?side1 ?side2 ?side3 ?side4 A20.out).mono ?_); (case side1 => repeat (first | exact (Kd.C_below HR0_1.out HB_) | (with_reducible refine Kd.C_alloc ?_ _) | (with_reducible refine Kd.C_drewN ?_ _) | (with_reducible refine Kd.C_drew ?_))); (case side2 => exact HC0_1.out); (case side3 => repeat (first | exact (Kd.C_below HR1_1.out HB_) | (with_reducible refine Kd.C_alloc ?_ _) | (with_reducible refine Kd.C_drewN ?_ _) | (with_reducible refine Kd.C_drew ?_))); (case side4 => exact HC1_1.out); rintro e w28 ⟨rfl, hb⟩; have n_ := a_ (bb_ BK505 hb) (a_ (bb_ BK506 hb) (a_ (bb_ BK507 hb) (bs_ HB hb))); clear BK505 BK506 BK507 HB; obtain ⟨BK505, BK506, BK507, HB⟩ := n_; (try clear hb); (try clear hb2); (try clear hk); (try clear hi); obtain ⟨hcz29_0, hcz29_1, hfz29_0, hfz29_1⟩ := cz2_ BK505; obtain ⟨hcz30_0, hcz30_1, hcz30_2, hcz30_3, hcz30_4, hfz30_0, hfz30_1, hfz30_2, hfz30_3, hfz30_4⟩ := cz5_ BK507) | (go_at_call 14; (with_reducible refine (warrantorref14_Check.calls k a0_0 _ _ l0_1 a2_0 a2_1 a2_2 a2_3 a2_4 t511 _ ?side1 ?side2 A22.out).mono ?_); (case side1 => exact sd_ (Kd.C_below HR0_1.out HB.out)); (case side2 => exact HC0_1.out); rintro e w31 ⟨rfl, hb⟩; have n_ := a_ (bb_ BK505 hb) (a_ (bb_ BK506 hb) (a_ (bb_ BK507 hb) (bs_ HB hb))); clear BK505 BK506 BK507 HB; obtain ⟨BK505, BK506, BK507, HB⟩ := n_; (try clear hb); (try clear hb2); (try clear hk); (try clear hi)))
  go_meet
  case rel => exact ⟨_, ((t511 != 0)), (by first | rfl | (simp; done) | (simp [*]; done)), H', ⟨by first | omega | exact Nat.le_refl _⟩, ⟨by (with_reducible repeat (first | refine blk_drewN ?_ _ | refine blk_drew ?_ | refine blk_alloc ?_ _)); exact BK505.out⟩, ⟨by (with_reducible repeat (first | refine blk_drewN ?_ _ | refine blk_drew ?_ | refine blk_alloc ?_ _)); exact BK506.out⟩, ⟨by (with_reducible repeat (first | refine blk_drewN ?_ _ | refine blk_drew ?_ | refine blk_alloc ?_ _)); exact BK507.out⟩, ⟨HB_⟩⟩
 case rest =>
  clear HC4
  try clear c1
  try clear c2
  try clear p2
  try clear c3
  try clear c5
  try clear c9
  try clear c10
  try clear c11
  try clear c12
  try clear c14
  try clear c15
  try clear c16
  try clear c18
  try clear c21
  try clear c21b0
  try clear c21b1
  try clear c23
  try clear c24
  try clear c26
  try clear c32
  try clear c33
  try clear c35
  try clear hcz12_0
  try clear hcz12_1
  try clear hcz17_0
  try clear hcz17_1
  try clear hcz19_0
  try clear hcz19_1
  try clear hcz25_0
  try clear hcz25_1
  try clear hcz27_0
  try clear hcz27_1
  try clear hcz29_0
  try clear hcz29_1
  try clear hcz30_0
  try clear hcz30_1
  try clear hcz30_2
  try clear hcz30_3
  try clear hcz30_4
  try clear hcz34_0
  try clear hcz34_1
  try clear hcz36_0
  try clear hcz36_1
  try clear hfz12_0
  try clear hfz12_1
  try clear hfz17_0
  try clear hfz17_1
  try clear hfz19_0
  try clear hfz19_1
  try clear hfz25_0
  try clear hfz25_1
  try clear hfz27_0
  try clear hfz27_1
  try clear hfz29_0
  try clear hfz29_1
  try clear hfz30_0
  try clear hfz30_1
  try clear hfz30_2
  try clear hfz30_3
  try clear hfz30_4
  try clear hfz34_0
  try clear hfz34_1
  try clear hfz36_0
  try clear hfz36_1
  obtain ⟨kq, x34_3, rfl, HA, HJ3, BK505, BK506, BK507, HB⟩ := hcut
  cases kq with
  | zero => exact absurd HA.out (by simp [warrantorlaw14_PostRises.j0])
  | succ kj3 =>
    have H := HA.out
    clear HA
    simp only [warrantorlaw14_PostRises.j0] at H
    by_cases c38 : x34_3 = true
    · subst c38
      replace H := ps1_ H
      replace H := bd_ H
      obtain ⟨t512, A39, H⟩ := H
      (try dsimp only at H)
      obtain rfl := Option.some.inj H
      go_wp2_with (first | ((with_reducible refine gate_callee (f := 13) rfl ?_); refine goesL_ (some 35) rfl rfl Try.func13 (by kernel_rfl) rfl #[] rfl MP_ ?_; (with_reducible refine (warrantorlaw14_lives.calls kj3  t512 _ A39.out).mono ?_); rintro e w40 ⟨rfl, hb⟩; refine ⟨_, rfl, ?_⟩; have n_ := a_ (bb_ BK505 hb) (a_ (bb_ BK506 hb) (a_ (bb_ BK507 hb) (bs_ HB hb))); clear BK505 BK506 BK507 HB; obtain ⟨BK505, BK506, BK507, HB⟩ := n_; (try clear hb); (try clear hb2); (try clear hk); (try clear hi)))
      go_ret
      exact ⟨by first | rfl | (simp [errW_none, errW_some] <;> rfl) | (simp [*, errW_none, errW_some] <;> rfl), HB_⟩
    replace c38 := Bool.eq_false_iff.mpr c38
    subst c38
    replace H := ng1_ H
    replace H := bd_ H
    obtain ⟨⟨t513, t514, t517⟩, A41, H⟩ := H
    (try dsimp only at H)
    replace H := bd_ H
    obtain ⟨⟨t519, t520, t523⟩, A42, H⟩ := H
    (try dsimp only at H)
    replace H := bd_ H
    obtain ⟨⟨t525, t526, t529⟩, A43, H⟩ := H
    (try dsimp only at H)
    replace H := bd_ H
    obtain ⟨⟨t531, t532⟩, A44, H⟩ := H
    (try dsimp only at H)
    replace H := bd_ H
    obtain ⟨t533, A45, H⟩ := H
    (try dsimp only at H)
    replace H := yes_ H
    obtain ⟨c46, H⟩ := H
    subst c46
    replace H := yes_ H
    obtain ⟨c47, H⟩ := H
    have c47b0 : (t523 == 0) = true := beq_iff_eq.mpr c47
    have c47b1 : (t523 != 0) = false := bne_eq_false_iff_eq.mpr c47
    clear c47
    replace H := yes_ H
    obtain ⟨c48, H⟩ := H
    have c48b0 : (t529 == 0) = true := beq_iff_eq.mpr c48
    have c48b1 : (t529 != 0) = false := bne_eq_false_iff_eq.mpr c48
    clear c48
    replace H := yes_ H
    obtain ⟨c49, H⟩ := H
    have c49b0 : (t532 == 0) = true := beq_iff_eq.mpr c49
    have c49b1 : (t532 != 0) = false := bne_eq_false_iff_eq.mpr c49
    clear c49
    obtain rfl := Option.some.inj H
    have hnb50 := NB505_506.out
    have hnc50 := NB506_505.out
    have hnb51 := NB505_507.out
    have hnc51 := NB507_505.out
    obtain ⟨hcz52_0, hcz52_1, hfz52_0, hfz52_1⟩ := cz2_ BK505
    have hnb53 := NB506_507.out
    have hnc53 := NB507_506.out
    obtain ⟨hcz54_0, hcz54_1, hfz54_0, hfz54_1⟩ := cz2_ BK506
    go_wp2_with (first | ((with_reducible refine gate_callee (f := 35) rfl ?_); refine goesL_ (some 39) rfl rfl Try.func35 (by kernel_rfl) rfl #[.agg #[.int .i64 a0_0, .slice A0_1 l0_1.length c0_1], .agg #[.int .i64 a1_0, .slice A1_1 l1_1.length c1_1]] rfl MP_ ?_; (with_reducible refine (zone_Join.calls kj3 a0_0 _ _ l0_1 a1_0 _ _ l1_1 t513 t514 t517 _ ?side1 ?side2 ?side3 ?side4 A41.out).mono ?_); (case side1 => exact sd_ (Kd.C_below HR0_1.out HB.out)); (case side2 => exact HC0_1.out); (case side3 => exact sd_ (Kd.C_below HR1_1.out HB.out)); (case side4 => exact HC1_1.out); rintro e w55 ⟨v515, rfl, ho0, hb⟩; refine ⟨_, rfl, ?_⟩; have n_ := a_ (Aside0.mk (Kd.R_lower ho0 (below_size HB_))) (a_ (bb_ BK505 hb) (a_ (bb_ BK506 hb) (a_ (bb_ BK507 hb) (bs_ HB hb)))); clear BK505 BK506 BK507 HB; obtain ⟨HO516, BK505, BK506, BK507, HB⟩ := n_; (try clear hb); (try clear hb2); (try clear hk); (try clear hi); (try clear ho0)) | ((with_reducible refine gate_dst (N := 7) rfl ?_); refine bx_ (N := 7) (cs := #[.int .i64 0, .slice none 0 0]) (t := 24) ?_; intro gb518 hg w56 hbox hb; have n_ := a_ (rb_ HO516 hb) (a_ (bb_ BK505 hb) (a_ (bb_ BK506 hb) (a_ (bb_ BK507 hb) (a_ (bs_ HB hb) (a_ (Aside0.mk hbox) (a_ (gs_ HB hg) (a_ (gs_ HB hg) (a_ (nl_ BK505 hg) (a_ (ng_ BK505 hg) (a_ (nl_ BK506 hg) (a_ (ng_ BK506 hg) (a_ (nl_ BK507 hg) (ng_ BK507 hg))))))))))))); clear HO516 BK505 BK506 BK507 HB; obtain ⟨HO516, BK505, BK506, BK507, HB, BK518, GW518, GE518, NB505_518, NB518_505, NB506_518, NB518_506, NB507_518, NB518_507⟩ := n_; clear hb hbox hg; have hnb57 := NB518_505.out; have hnc57 := NB505_518.out; have hnb58 := NB518_506.out; have hnc58 := NB506_518.out; have hnb59 := NB518_507.out; have hnc59 := NB507_518.out; obtain ⟨hcz60_0, hcz60_1, hfz60_0, hfz60_1⟩ := cz2_ BK518; obtain ⟨Ao61, co61, eo61⟩ := Kd.R_slice HO516.out; subst eo61; obtain ⟨hcz62_0, hcz62_1, hfz62_0, hfz62_1⟩ := cz2_ BK505; obtain ⟨hcz63_0, hcz63_1, hcz63_2, hcz63_3, hcz63_4, hfz63_0, hfz63_1, hfz63_2, hfz63_3, hfz63_4⟩ := cz5_ BK507) | ((with_reducible refine gate_callee (f := 15) rfl ?_); refine goesL_ (some 45) rfl rfl Try.func15 (by kernel_rfl) rfl #[.agg #[.int .i64 a0_0, .slice A0_1 l0_1.length c0_1], .agg #[.int .i64 a2_0, .int .i64 a2_1, .int .i64 a2_2, .int .i64 a2_3, .int .i64 a2_4]] rfl MP_ ?_; (with_reducible refine (post_Post.calls kj3 a0_0 _ _ l0_1 a2_0 a2_1 a2_2 a2_3 a2_4 t519 t520 t523 _ ?side1 ?side2 A42.out).mono ?_); (case side1 => exact Kd.C_below HR0_1.out HB_); (case side2 => exact HC0_1.out); rintro e w64 ⟨v521, rfl, ho0, hb⟩; refine ⟨_, rfl, ?_⟩; have n_ := a_ (Aside0.mk (Kd.R_elder' (rd_ (rf2_ HO516 BK518 (.int .i64 t513) (.slice Ao61 t514.length co61))) (Kd.R_base ho0) hb)) (a_ (Aside0.mk (Kd.R_lower (Kd.R_new' ho0 (Kd.R_lt (rd_ (rf2_ HO516 BK518 (.int .i64 t513) (.slice Ao61 t514.length co61))))) (below_size HB_))) (a_ (bc_ #[.int .i64 a0_0, .slice A0_1 l0_1.length c0_1] 24 BK505 hb) (a_ (bc_ #[.int .i64 a1_0, .slice A1_1 l1_1.length c1_1] 24 BK506 hb) (a_ (bc_ #[.int .i64 a2_0, .int .i64 a2_1, .int .i64 a2_2, .int .i64 a2_3, .int .i64 a2_4] 26 BK507 hb) (a_ (bc_ #[.int .i64 t513, .slice Ao61 t514.length co61] 24 BK518 hb) (bs_ HB hb)))))); clear HO516 BK505 BK506 BK507 BK518 HB; obtain ⟨HO516, HO522, BK505, BK506, BK507, BK518, HB⟩ := n_; (try clear hb); (try clear hb2); (try clear hk); (try clear hi); (try clear ho0); (try clear A42)) | ((with_reducible refine gate_dst (N := 9) rfl ?_); refine bx_ (N := 9) (cs := #[.int .i64 0, .slice none 0 0]) (t := 24) ?_; intro gb524 hg w65 hbox hb; have n_ := a_ (rb_ HO516 hb) (a_ (rb_ HO522 hb) (a_ (bb_ BK505 hb) (a_ (bb_ BK506 hb) (a_ (bb_ BK507 hb) (a_ (bb_ BK518 hb) (a_ (bs_ HB hb) (a_ (Aside0.mk hbox) (a_ (gs_ HB hg) (a_ (gs_ HB hg) (a_ (nl_ BK505 hg) (a_ (ng_ BK505 hg) (a_ (nl_ BK506 hg) (a_ (ng_ BK506 hg) (a_ (nl_ BK507 hg) (a_ (ng_ BK507 hg) (a_ (nl_ BK518 hg) (ng_ BK518 hg))))))))))))))))); clear HO516 HO522 BK505 BK506 BK507 BK518 HB; obtain ⟨HO516, HO522, BK505, BK506, BK507, BK518, HB, BK524, GW524, GE524, NB505_524, NB524_505, NB506_524, NB524_506, NB507_524, NB524_507, NB518_524, NB524_518⟩ := n_; clear hb hbox hg; have hnb66 := NB524_505.out; have hnc66 := NB505_524.out; have hnb67 := NB524_506.out; have hnc67 := NB506_524.out; have hnb68 := NB524_507.out; have hnc68 := NB507_524.out; have hnb69 := NB524_518.out; have hnc69 := NB518_524.out; obtain ⟨hcz70_0, hcz70_1, hfz70_0, hfz70_1⟩ := cz2_ BK524; obtain ⟨Ao71, co71, eo71⟩ := Kd.R_slice HO522.out; subst eo71; obtain ⟨hcz72_0, hcz72_1, hfz72_0, hfz72_1⟩ := cz2_ BK518; obtain ⟨hcz73_0, hcz73_1, hcz73_2, hcz73_3, hcz73_4, hfz73_0, hfz73_1, hfz73_2, hfz73_3, hfz73_4⟩ := cz5_ BK507) | ((with_reducible refine gate_callee (f := 15) rfl ?_); refine goesL_ (some 51) rfl rfl Try.func15 (by kernel_rfl) rfl #[.agg #[.int .i64 t513, .slice Ao61 t514.length co61], .agg #[.int .i64 a2_0, .int .i64 a2_1, .int .i64 a2_2, .int .i64 a2_3, .int .i64 a2_4]] rfl MP_ ?_; (with_reducible refine (post_Post.calls kj3 t513 _ _ t514 a2_0 a2_1 a2_2 a2_3 a2_4 t525 t526 t529 _ ?side1 ?side2 A43.out).mono ?_); (case side1 => refine (Kd.R_reads' (e := 3) (base := w.heap.size) (ok := fun k_ => (True ∧ some k_ ≠ (.slice Ao71 t520.length co71 : Value).ownBlock)) (n := t514.length) (c := co61) ?_).2.2; exact (rd_ (rf2_ HO516 BK524 (.int .i64 t519) (.slice Ao71 t520.length co71)))); (case side2 => exact (Kd.R_reads' HO516.out).2.1); rintro e w74 ⟨v527, rfl, ho0, hb⟩; refine ⟨_, rfl, ?_⟩; have n_ := a_ (Aside0.mk (Kd.R_elder' (rd_ (rf2_ HO516 BK524 (.int .i64 t519) (.slice Ao71 t520.length co71))) (Kd.R_base ho0) hb)) (a_ (Aside0.mk (Kd.R_elder' (rd_ (rf2_ HO522 BK524 (.int .i64 t519) (.slice Ao71 t520.length co71))) (Kd.R_base ho0) hb)) (a_ (Aside0.mk (Kd.R_lower (Kd.R_new' (Kd.R_new' ho0 (Kd.R_lt (rd_ (rf2_ HO516 BK524 (.int .i64 t519) (.slice Ao71 t520.length co71))))) (Kd.R_lt (rd_ (rf2_ HO522 BK524 (.int .i64 t519) (.slice Ao71 t520.length co71))))) (below_size HB_))) (a_ (bc_ #[.int .i64 a0_0, .slice A0_1 l0_1.length c0_1] 24 BK505 hb) (a_ (bc_ #[.int .i64 a1_0, .slice A1_1 l1_1.length c1_1] 24 BK506 hb) (a_ (bc_ #[.int .i64 a2_0, .int .i64 a2_1, .int .i64 a2_2, .int .i64 a2_3, .int .i64 a2_4] 26 BK507 hb) (a_ (bc_ #[.int .i64 t513, .slice Ao61 t514.length co61] 24 BK518 hb) (a_ (bc_ #[.int .i64 t519, .slice Ao71 t520.length co71] 24 BK524 hb) (bs_ HB hb)))))))); clear HO516 HO522 BK505 BK506 BK507 BK518 BK524 HB; obtain ⟨HO516, HO522, HO528, BK505, BK506, BK507, BK518, BK524, HB⟩ := n_; (try clear hb); (try clear hb2); (try clear hk); (try clear hi); (try clear ho0)) | ((with_reducible refine gate_dst (N := 11) rfl ?_); refine bx_ (N := 11) (cs := #[.int .i64 0, .slice none 0 0]) (t := 24) ?_; intro gb530 hg w75 hbox hb; have n_ := a_ (rb_ HO516 hb) (a_ (rb_ HO522 hb) (a_ (rb_ HO528 hb) (a_ (bb_ BK505 hb) (a_ (bb_ BK506 hb) (a_ (bb_ BK507 hb) (a_ (bb_ BK518 hb) (a_ (bb_ BK524 hb) (a_ (bs_ HB hb) (a_ (Aside0.mk hbox) (a_ (gs_ HB hg) (a_ (gs_ HB hg) (a_ (nl_ BK505 hg) (a_ (ng_ BK505 hg) (a_ (nl_ BK506 hg) (a_ (ng_ BK506 hg) (a_ (nl_ BK507 hg) (a_ (ng_ BK507 hg) (a_ (nl_ BK518 hg) (a_ (ng_ BK518 hg) (a_ (nl_ BK524 hg) (ng_ BK524 hg))))))))))))))))))))); clear HO516 HO522 HO528 BK505 BK506 BK507 BK518 BK524 HB; obtain ⟨HO516, HO522, HO528, BK505, BK506, BK507, BK518, BK524, HB, BK530, GW530, GE530, NB505_530, NB530_505, NB506_530, NB530_506, NB507_530, NB530_507, NB518_530, NB530_518, NB524_530, NB530_524⟩ := n_; clear hb hbox hg; have hnb76 := NB530_505.out; have hnc76 := NB505_530.out; have hnb77 := NB530_506.out; have hnc77 := NB506_530.out; have hnb78 := NB530_507.out; have hnc78 := NB507_530.out; have hnb79 := NB530_518.out; have hnc79 := NB518_530.out; have hnb80 := NB530_524.out; have hnc80 := NB524_530.out; obtain ⟨hcz81_0, hcz81_1, hfz81_0, hfz81_1⟩ := cz2_ BK530; obtain ⟨Ao82, co82, eo82⟩ := Kd.R_slice HO528.out; subst eo82; obtain ⟨hcz83_0, hcz83_1, hfz83_0, hfz83_1⟩ := cz2_ BK524) | ((with_reducible refine gate_callee (f := 36) rfl ?_); refine goesL_ (some 57) rfl rfl Try.func36 (by kernel_rfl) rfl #[.agg #[.int .i64 t519, .slice Ao71 t520.length co71], .agg #[.int .i64 t525, .slice Ao82 t526.length co82]] rfl MP_ ?_; (with_reducible refine (zone_Leq.calls kj3 t519 _ _ t520 t525 _ _ t526 t531 t532 _ ?side1 ?side2 ?side3 ?side4 A44.out).mono ?_); (case side1 => refine (Kd.R_reads' (e := 3) (base := w.heap.size) (ok := fun k_ => ((True ∧ some k_ ≠ (.slice Ao61 t514.length co61 : Value).ownBlock) ∧ some k_ ≠ (.slice Ao82 t526.length co82 : Value).ownBlock)) (n := t520.length) (c := co71) ?_).2.2; exact (rd_ (rf2_ HO522 BK530 (.int .i64 t525) (.slice Ao82 t526.length co82)))); (case side2 => exact (Kd.R_reads' HO522.out).2.1); (case side3 => refine (Kd.R_reads' (e := 3) (base := w.heap.size) (ok := fun k_ => ((True ∧ some k_ ≠ (.slice Ao61 t514.length co61 : Value).ownBlock) ∧ some k_ ≠ (.slice Ao71 t520.length co71 : Value).ownBlock)) (n := t526.length) (c := co82) ?_).2.2; exact (rd_ (rf2_ HO528 BK530 (.int .i64 t525) (.slice Ao82 t526.length co82)))); (case side4 => exact (Kd.R_reads' HO528.out).2.1); rintro e w84 ⟨rfl, hb⟩; refine ⟨_, rfl, ?_⟩; have n_ := a_ (Aside0.mk (Kd.R_below (rd_ (rf2_ HO516 BK530 (.int .i64 t525) (.slice Ao82 t526.length co82))) hb)) (a_ (Aside0.mk (Kd.R_below (rd_ (rf2_ HO522 BK530 (.int .i64 t525) (.slice Ao82 t526.length co82))) hb)) (a_ (Aside0.mk (Kd.R_below (rd_ (rf2_ HO528 BK530 (.int .i64 t525) (.slice Ao82 t526.length co82))) hb)) (a_ (bc_ #[.int .i64 a0_0, .slice A0_1 l0_1.length c0_1] 24 BK505 hb) (a_ (bc_ #[.int .i64 a1_0, .slice A1_1 l1_1.length c1_1] 24 BK506 hb) (a_ (bc_ #[.int .i64 a2_0, .int .i64 a2_1, .int .i64 a2_2, .int .i64 a2_3, .int .i64 a2_4] 26 BK507 hb) (a_ (bc_ #[.int .i64 t513, .slice Ao61 t514.length co61] 24 BK518 hb) (a_ (bc_ #[.int .i64 t519, .slice Ao71 t520.length co71] 24 BK524 hb) (a_ (bc_ #[.int .i64 t525, .slice Ao82 t526.length co82] 24 BK530 hb) (bs_ HB hb))))))))); clear HO516 HO522 HO528 BK505 BK506 BK507 BK518 BK524 BK530 HB; obtain ⟨HO516, HO522, HO528, BK505, BK506, BK507, BK518, BK524, BK530, HB⟩ := n_; (try clear hb); (try clear hb2); (try clear hk); (try clear hi)) | ((with_reducible refine gate_callee (f := 13) rfl ?_); refine goesL_ (some 60) rfl rfl Try.func13 (by kernel_rfl) rfl #[] rfl MP_ ?_; (with_reducible refine (warrantorlaw14_lives.calls kj3  true _ A45.out).mono ?_); rintro e w85 ⟨rfl, hb⟩; refine ⟨_, rfl, ?_⟩; have n_ := a_ (rb_ HO516 hb) (a_ (rb_ HO522 hb) (a_ (rb_ HO528 hb) (a_ (bb_ BK505 hb) (a_ (bb_ BK506 hb) (a_ (bb_ BK507 hb) (a_ (bb_ BK518 hb) (a_ (bb_ BK524 hb) (a_ (bb_ BK530 hb) (bs_ HB hb))))))))); clear HO516 HO522 HO528 BK505 BK506 BK507 BK518 BK524 BK530 HB; obtain ⟨HO516, HO522, HO528, BK505, BK506, BK507, BK518, BK524, BK530, HB⟩ := n_; (try clear hb); (try clear hb2); (try clear hk); (try clear hi)))
    go_ret
    exact ⟨by first | rfl | (simp [errW_none, errW_some] <;> rfl) | (simp [*, errW_none, errW_some] <;> rfl), HB_⟩
/-- THE ONE PURE STATEMENT of warrantorlaw14_PostRises: yours. -/
def warrantorlaw14_PostRises.Pure : Prop := ∀ (a0_0 : Int) (l0_1 : List Int) (a1_0 : Int) (l1_1 : List Int) (a2_0 : Int) (a2_1 : Int) (a2_2 : Int) (a2_3 : Int) (a2_4 : Int), (Lit.int .i64 a0_0).wf = true → l0_1.length ≤ maxLen → l0_1.length * 8 ≤ 140737488351232 → (∀ x ∈ l0_1, (Lit.int .i64 x).wf = true) → (Lit.int .i64 a1_0).wf = true → l1_1.length ≤ maxLen → l1_1.length * 8 ≤ 140737488351232 → (∀ x ∈ l1_1, (Lit.int .i64 x).wf = true) → (Lit.int .i64 a2_0).wf = true → (Lit.int .i64 a2_1).wf = true → (Lit.int .i64 a2_2).wf = true → (Lit.int .i64 a2_3).wf = true → (Lit.int .i64 a2_4).wf = true → ∃ k, warrantorlaw14_PostRises.f k a0_0 l0_1 a1_0 l1_1 a2_0 a2_1 a2_2 a2_3 a2_4 = some true
theorem warrantorlaw14_PostRises.walk (P : warrantorlaw14_PostRises.Pure) (a0_0 : Int) (a0_1 : Option Addr) (len0_1 cap0_1 : Nat) (z0_1 : List Int) (a1_0 : Int) (a1_1 : Option Addr) (len1_1 cap1_1 : Nat) (z1_1 : List Int) (a2_0 : Int) (a2_1 : Int) (a2_2 : Int) (a2_3 : Int) (a2_4 : Int) (w : World) (w0_0 : (Lit.int .i64 a0_0).wf = true) (w0_1 : (a0_1 = none ∧ len0_1 = 0 ∧ cap0_1 = 0 ∧ z0_1 = []) ∨ ∃ x, a0_1 = some x ∧ len0_1 ≤ cap0_1 ∧ cap0_1 ≤ maxLen ∧ z0_1.length = cap0_1 ∧ (∀ i, i < z0_1.length → w.cell? (x.add i) = some (.int .i64 (z0_1.getD i 0))) ∧ ∀ n ∈ z0_1, (Lit.int .i64 n).wf = true) (y0_1 : len0_1 * 8 ≤ 140737488351232) (w1_0 : (Lit.int .i64 a1_0).wf = true) (w1_1 : (a1_1 = none ∧ len1_1 = 0 ∧ cap1_1 = 0 ∧ z1_1 = []) ∨ ∃ x, a1_1 = some x ∧ len1_1 ≤ cap1_1 ∧ cap1_1 ≤ maxLen ∧ z1_1.length = cap1_1 ∧ (∀ i, i < z1_1.length → w.cell? (x.add i) = some (.int .i64 (z1_1.getD i 0))) ∧ ∀ n ∈ z1_1, (Lit.int .i64 n).wf = true) (y1_1 : len1_1 * 8 ≤ 140737488351232) (w2_0 : (Lit.int .i64 a2_0).wf = true) (w2_1 : (Lit.int .i64 a2_1).wf = true) (w2_2 : (Lit.int .i64 a2_2).wf = true) (w2_3 : (Lit.int .i64 a2_3).wf = true) (w2_4 : (Lit.int .i64 a2_4).wf = true) :
  Calls Try.prog 5 #[.agg #[.int .i64 a0_0, .slice a0_1 len0_1 cap0_1], .agg #[.int .i64 a1_0, .slice a1_1 len1_1 cap1_1], .agg #[.int .i64 a2_0, .int .i64 a2_1, .int .i64 a2_2, .int .i64 a2_3, .int .i64 a2_4]] w fun e w' => e = .returned (.bool true) ∧ Below w.heap.size w w' := by
 obtain ⟨l0_1, rfl, hr0_1, hm0_1, hw0_1, hc0_1⟩ := ReadsInt.ofRowC w0_1
 obtain ⟨l1_1, rfl, hr1_1, hm1_1, hw1_1, hc1_1⟩ := ReadsInt.ofRowC w1_1
 obtain ⟨k, h⟩ := P a0_0 l0_1 a1_0 l1_1 a2_0 a2_1 a2_2 a2_3 a2_4 w0_0 hm0_1 y0_1 hw0_1 w1_0 hm1_1 y1_1 hw1_1 w2_0 w2_1 w2_2 w2_3 w2_4
 refine (warrantorlaw14_PostRises.calls k a0_0 _ _ l0_1 a1_0 _ _ l1_1 a2_0 a2_1 a2_2 a2_3 a2_4 true w (Kd.C_of_reads (d := (0 : Int)) (h1 := fun _ => rfl) hr0_1) hc0_1 (Kd.C_of_reads (d := (0 : Int)) (h1 := fun _ => rfl) hr1_1) hc1_1 h).mono ?_
 rintro e w' ⟨rfl, hd⟩
 exact ⟨rfl, hd⟩
end Go.Proofs.Ytgeemdpflcefkaa.Y

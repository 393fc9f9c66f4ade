-- WRITTEN BY this session's program wip/ext.py, in print.py's manner
import Derived.Test.YtgeemdpflcefkaaYx0
import Derived.Test.YtgeemdpflcefkaaYx3
import Derived.Test.YtgeemdpflcefkaaYx28
import Derived.Test.YtgeemdpflcefkaaYx29
import Derived.Test.YtgeemdpflcefkaaYx32
import Derived.Test.YtgeemdpflcefkaaYx35
import Derived.Test.YtgeemdpflcefkaaYx36
namespace Go.Proofs.Ytgeemdpflcefkaa.Y
open Go.RowKit Go.Proofs.YtgeemdpflcefkaaW.PrintWords Go.Proofs.YtgeemdpflcefkaaW.PrintLast Go.Proofs.YtgeemdpflcefkaaW.PrintMore
attribute [local go_sem] max2_int min2_int max_two min_two max_three min_three max_four min_four   -- for this text's walks alone
set_option linter.unusedVariables false
set_option linter.unusedSimpArgs false

/-! ### warrantorlaw14_PostTells: function 3 -/
mutual
def warrantorlaw14_PostTells.j0 : Nat → Int → Bool → Int → List Int → Int → Int → Int → Int → Int → Int → List Int → Int → List Int → Option (Bool)
  | 0, _, _, _, _, _, _, _, _, _, _, _, _, _ => none
  | k + 1, x5, x42, x564000, x564001, x565000, x565001, x565002, x565003, x565004, x574000, x574001, x580000, x580001 => if x42 = true then (none) else (if x5 = 0 then ((warrantorref14_Fault.f k x564000 x564001 x565000 x565001 x565002 x565003 x565004).bind fun bt585 => (if (bt585.2.length : Int) > 0 then ((warrantorref08_Same.f k bt585.1 bt585.2 x564000 x564001).bind fun t590 => (warrantorlaw14_PostTells.j1 k t590 x564000 x564001 x565000 x565001 x565002 x565003 x565004 x574000 x574001 x580000 x580001 bt585.1 bt585.2)) else (warrantorlaw14_PostTells.j1 k false x564000 x564001 x565000 x565001 x565002 x565003 x565004 x574000 x574001 x580000 x580001 bt585.1 bt585.2))) else ((warrantorref08_Same.f k x574000 x574001 0 ([] : List Int)).bind fun t581 => (if t581 = true then ((warrantorref08_Same.f k x580000 x580001 0 ([] : List Int)).bind fun t582 => (if t582 = true then ((post_May.f k x564000 x564001 x565000 x565001 x565002 x565003 x565004).bind fun t583 => (if t583 = true then (none) else ((post_Must.f k x564000 x564001 x565000 x565001 x565002 x565003 x565004).bind fun t584 => (some (!t584))))) else (none))) else (none))))
def warrantorlaw14_PostTells.j1 : Nat → Bool → Int → List Int → Int → Int → Int → Int → Int → Int → List Int → Int → List Int → Int → List Int → Option (Bool)
  | 0, _, _, _, _, _, _, _, _, _, _, _, _, _, _ => none
  | k + 1, x11, x564000, x564001, x565000, x565001, x565002, x565003, x565004, x574000, x574001, x580000, x580001, x590000, x590001 => (warrantorref14_Post.f k x564000 x564001 x565000 x565001 x565002 x565003 x565004).bind fun bt591 => ((warrantorref08_Same.f k x574000 x574001 bt591.1 bt591.2).bind fun t595 => (if t595 = true then ((warrantorref08_Same.f k x580000 x580001 x590000 x590001).bind fun t596 => (if t596 = true then ((post_May.f k x564000 x564001 x565000 x565001 x565002 x565003 x565004).bind fun t597 => (if (t597 == (decide ((x590001.length : Int) > 0))) = true then ((post_Must.f k x564000 x564001 x565000 x565001 x565002 x565003 x565004).bind fun t598 => (some (t598 == x11))) else (none))) else (none))) else (none)))
end
def warrantorlaw14_PostTells.f (k : Nat) (a0_0 : Int) (l0_1 : List Int) (a1_0 : Int) (a1_1 : Int) (a1_2 : Int) (a1_3 : Int) (a1_4 : Int) : Option (Bool) := (warrantorref08_Large.f l0_1).bind fun t565 => (if t565 = true then ((warrantorlaw14_lives.f k).bind fun t566 => (some t566)) else ((warrantorref14_Check.f k a0_0 l0_1 a1_0 a1_1 a1_2 a1_3 a1_4).bind fun t567 => ((post_Post.f k a0_0 l0_1 a1_0 a1_1 a1_2 a1_3 a1_4).bind fun bt568 => ((post_Fault.f k a0_0 l0_1 a1_0 a1_1 a1_2 a1_3 a1_4).bind fun bt574 => ((warrantorlaw14_lives.f k).bind fun t580 => (if t580 = true then (if bt568.2.2 = t567 then (warrantorlaw14_PostTells.j0 k t567 (bt574.2.2 != t567) a0_0 l0_1 a1_0 a1_1 a1_2 a1_3 a1_4 bt568.1 bt568.2.1 bt574.1 bt574.2.1) else (warrantorlaw14_PostTells.j0 k t567 true a0_0 l0_1 a1_0 a1_1 a1_2 a1_3 a1_4 bt568.1 bt568.2.1 bt574.1 bt574.2.1)) else (warrantorlaw14_PostTells.j0 k t567 true a0_0 l0_1 a1_0 a1_1 a1_2 a1_3 a1_4 bt568.1 bt568.2.1 bt574.1 bt574.2.1)))))))
theorem warrantorlaw14_PostTells.mono_l : ∀ k, (∀ y0 y1 y2 y3 y4 y5 y6 y7 y8 y9 y10 y11 y12, LeO (warrantorlaw14_PostTells.j0 k y0 y1 y2 y3 y4 y5 y6 y7 y8 y9 y10 y11 y12) (warrantorlaw14_PostTells.j0 (k + 1) y0 y1 y2 y3 y4 y5 y6 y7 y8 y9 y10 y11 y12)) ∧ (∀ y0 y1 y2 y3 y4 y5 y6 y7 y8 y9 y10 y11 y12 y13, LeO (warrantorlaw14_PostTells.j1 k y0 y1 y2 y3 y4 y5 y6 y7 y8 y9 y10 y11 y12 y13) (warrantorlaw14_PostTells.j1 (k + 1) y0 y1 y2 y3 y4 y5 y6 y7 y8 y9 y10 y11 y12 y13))
  | 0 => ⟨fun _ _ _ _ _ _ _ _ _ _ _ _ _ r h => by simp [warrantorlaw14_PostTells.j0] at h, fun _ _ _ _ _ _ _ _ _ _ _ _ _ _ r h => by simp [warrantorlaw14_PostTells.j1] at h⟩
  | k + 1 => by
    obtain ⟨ih0, ih1⟩ := warrantorlaw14_PostTells.mono_l k
    refine ⟨?_, ?_⟩
    · intro y0 y1 y2 y3 y4 y5 y6 y7 y8 y9 y10 y11 y12
      unfold warrantorlaw14_PostTells.j0
      repeat' first
      | (with_reducible exact ih0 _ _ _ _ _ _ _ _ _ _ _ _ _)
      | (with_reducible exact ih1 _ _ _ _ _ _ _ _ _ _ _ _ _ _)
      | (with_reducible exact post_Fault.mono _ _ _ _ _ _ _ _)
      | (with_reducible exact post_May.mono _ _ _ _ _ _ _ _)
      | (with_reducible exact post_Must.mono _ _ _ _ _ _ _ _)
      | (with_reducible exact post_Post.mono _ _ _ _ _ _ _ _)
      | (with_reducible exact warrantorlaw14_lives.mono _)
      | (with_reducible exact warrantorref08_Same.mono _ _ _ _ _)
      | (with_reducible exact warrantorref14_Check.mono _ _ _ _ _ _ _ _)
      | (with_reducible exact warrantorref14_Fault.mono _ _ _ _ _ _ _ _)
      | (with_reducible exact warrantorref14_Post.mono _ _ _ _ _ _ _ _)
      | (with_reducible exact LeO.refl _)
      | (with_reducible exact LeO.none _)
      | (with_reducible refine LeO.ite ?_ ?_)
      | (with_reducible refine LeO.bind ?_ (fun _ => ?_))
      | exact ih0 _ _ _ _ _ _ _ _ _ _ _ _ _
      | exact ih1 _ _ _ _ _ _ _ _ _ _ _ _ _ _
      | exact post_Fault.mono _ _ _ _ _ _ _ _
      | exact post_May.mono _ _ _ _ _ _ _ _
      | exact post_Must.mono _ _ _ _ _ _ _ _
      | exact post_Post.mono _ _ _ _ _ _ _ _
      | exact warrantorlaw14_lives.mono _
      | exact warrantorref08_Same.mono _ _ _ _ _
      | exact warrantorref14_Check.mono _ _ _ _ _ _ _ _
      | exact warrantorref14_Fault.mono _ _ _ _ _ _ _ _
      | exact warrantorref14_Post.mono _ _ _ _ _ _ _ _
      | exact LeO.none _
      | refine LeO.ite ?_ ?_
      | refine LeO.bind ?_ (fun _ => ?_)
    · intro y0 y1 y2 y3 y4 y5 y6 y7 y8 y9 y10 y11 y12 y13
      unfold warrantorlaw14_PostTells.j1
      repeat' first
      | (with_reducible exact ih0 _ _ _ _ _ _ _ _ _ _ _ _ _)
      | (with_reducible exact ih1 _ _ _ _ _ _ _ _ _ _ _ _ _ _)
      | (with_reducible exact post_Fault.mono _ _ _ _ _ _ _ _)
      | (with_reducible exact post_May.mono _ _ _ _ _ _ _ _)
      | (with_reducible exact post_Must.mono _ _ _ _ _ _ _ _)
      | (with_reducible exact post_Post.mono _ _ _ _ _ _ _ _)
      | (with_reducible exact warrantorlaw14_lives.mono _)
      | (with_reducible exact warrantorref08_Same.mono _ _ _ _ _)
      | (with_reducible exact warrantorref14_Check.mono _ _ _ _ _ _ _ _)
      | (with_reducible exact warrantorref14_Fault.mono _ _ _ _ _ _ _ _)
      | (with_reducible exact warrantorref14_Post.mono _ _ _ _ _ _ _ _)
      | (with_reducible exact LeO.refl _)
      | (with_reducible exact LeO.none _)
      | (with_reducible refine LeO.ite ?_ ?_)
      | (with_reducible refine LeO.bind ?_ (fun _ => ?_))
      | exact ih0 _ _ _ _ _ _ _ _ _ _ _ _ _
      | exact ih1 _ _ _ _ _ _ _ _ _ _ _ _ _ _
      | exact post_Fault.mono _ _ _ _ _ _ _ _
      | exact post_May.mono _ _ _ _ _ _ _ _
      | exact post_Must.mono _ _ _ _ _ _ _ _
      | exact post_Post.mono _ _ _ _ _ _ _ _
      | exact warrantorlaw14_lives.mono _
      | exact warrantorref08_Same.mono _ _ _ _ _
      | exact warrantorref14_Check.mono _ _ _ _ _ _ _ _
      | exact warrantorref14_Fault.mono _ _ _ _ _ _ _ _
      | exact warrantorref14_Post.mono _ _ _ _ _ _ _ _
      | exact LeO.none _
      | refine LeO.ite ?_ ?_
      | refine LeO.bind ?_ (fun _ => ?_)
theorem warrantorlaw14_PostTells.mono : ∀ a0 a1 a2 a3 a4 a5 a6 k, LeO (warrantorlaw14_PostTells.f k a0 a1 a2 a3 a4 a5 a6) (warrantorlaw14_PostTells.f (k + 1) a0 a1 a2 a3 a4 a5 a6) := by
  intro a0 a1 a2 a3 a4 a5 a6 k
  obtain ⟨ih0, ih1⟩ := warrantorlaw14_PostTells.mono_l k
  unfold warrantorlaw14_PostTells.f
  repeat' first
      | (with_reducible exact ih0 _ _ _ _ _ _ _ _ _ _ _ _ _)
      | (with_reducible exact ih1 _ _ _ _ _ _ _ _ _ _ _ _ _ _)
      | (with_reducible exact post_Fault.mono _ _ _ _ _ _ _ _)
      | (with_reducible exact post_May.mono _ _ _ _ _ _ _ _)
      | (with_reducible exact post_Must.mono _ _ _ _ _ _ _ _)
      | (with_reducible exact post_Post.mono _ _ _ _ _ _ _ _)
      | (with_reducible exact warrantorlaw14_lives.mono _)
      | (with_reducible exact warrantorref08_Same.mono _ _ _ _ _)
      | (with_reducible exact warrantorref14_Check.mono _ _ _ _ _ _ _ _)
      | (with_reducible exact warrantorref14_Fault.mono _ _ _ _ _ _ _ _)
      | (with_reducible exact warrantorref14_Post.mono _ _ _ _ _ _ _ _)
      | (with_reducible exact LeO.refl _)
      | (with_reducible exact LeO.none _)
      | (with_reducible refine LeO.ite ?_ ?_)
      | (with_reducible refine LeO.bind ?_ (fun _ => ?_))
      | exact ih0 _ _ _ _ _ _ _ _ _ _ _ _ _
      | exact ih1 _ _ _ _ _ _ _ _ _ _ _ _ _ _
      | exact post_Fault.mono _ _ _ _ _ _ _ _
      | exact post_May.mono _ _ _ _ _ _ _ _
      | exact post_Must.mono _ _ _ _ _ _ _ _
      | exact post_Post.mono _ _ _ _ _ _ _ _
      | exact warrantorlaw14_lives.mono _
      | exact warrantorref08_Same.mono _ _ _ _ _
      | exact warrantorref14_Check.mono _ _ _ _ _ _ _ _
      | exact warrantorref14_Fault.mono _ _ _ _ _ _ _ _
      | exact warrantorref14_Post.mono _ _ _ _ _ _ _ _
      | exact LeO.none _
      | refine LeO.ite ?_ ?_
      | refine LeO.bind ?_ (fun _ => ?_)
def warrantorlaw14_PostTells.T12 : Bool × List (List Nat × List Nat) := (true, [([], []), ([], []), ([], []), ([1, 2], [1, 2]), ([0, 3, 3], [0, 3]), ([4, 4], [4]), ([5], [5]), ([5], [5]), ([6, 7, 5, 5], [5, 6, 7]), ([5, 8], [5, 8]), ([9, 8], [9]), ([10], [10]), ([10], [10]), ([11, 12, 10, 10], [10, 11, 12]), ([10], [10]), ([14, 10], [10, 14]), ([15, 10], [10, 15]), ([16, 10], [10, 16]), ([13, 17, 10], [10, 13, 17]), ([10, 18], [10, 18]), ([19, 13], [19]), ([20], [20]), ([20], [20]), ([21, 22, 20, 20], [20, 21, 22]), ([20], [20]), ([23, 24, 20], [20, 23, 24]), ([20, 25], [20, 25]), ([26, 23, 0, 1, 2, 3, 4, 5, 6, 7, 8, 9, 10, 11, 12, 13, 14, 15, 16, 17, 18, 19, 20, 21, 22, 23, 24, 25, 26], [26])])
def warrantorlaw14_PostTells.B12 : List Nat := [0, 0, 0, 6, 15, 31, 63, 63, 255, 511, 1023, 2047, 2047, 8191, 2047, 18431, 51199, 116735, 262143, 524287, 1048575, 2097151, 2097151, 8388607, 2097151, 33554431, 67108863, 134217727]
theorem warrantorlaw14_PostTells.tab12 : rtab .any (opsOf Try.f3 12) = warrantorlaw14_PostTells.T12 := by kernel_rfl
theorem warrantorlaw14_PostTells.bits12 : waitsOk warrantorlaw14_PostTells.T12.2 warrantorlaw14_PostTells.B12 = true := by kernel_rfl
set_option maxHeartbeats 8000000 in
set_option maxRecDepth 100000 in
theorem warrantorlaw14_PostTells.calls (k : Nat) (a0_0 : Int) (A0_1 : Option Addr) (c0_1 : Nat) (l0_1 : List Int) (a1_0 : Int) (a1_1 : Int) (a1_2 : Int) (a1_3 : Int) (a1_4 : Int) (r : Bool) (w : World) (hr0_1 : Kd.C (Kd.int .i64) w A0_1 l0_1.length l0_1) (hc0_1 : l0_1.length ≤ c0_1) (h : warrantorlaw14_PostTells.f k a0_0 l0_1 a1_0 a1_1 a1_2 a1_3 a1_4 = some r) :
    Calls Try.prog 3 #[.agg #[.int .i64 a0_0, .slice A0_1 l0_1.length c0_1], .agg #[.int .i64 a1_0, .int .i64 a1_1, .int .i64 a1_2, .int .i64 a1_3, .int .i64 a1_4]] w fun e w' => e = .returned (.bool r) ∧ Below w.heap.size w w' := by
  have hu24 := Try.underlying24
  have hu26 := Try.underlying26
  have HR0_1 := Aside0.mk hr0_1
  have HC0_1 := Aside0.mk hc0_1
  clear hr0_1 hc0_1
  have HB := Aside0.mk (Below.refl w.heap.size w)
  have H : ((warrantorref08_Large.f l0_1).bind fun t565 => (if t565 = true then ((warrantorlaw14_lives.f k).bind fun t566 => (some t566)) else ((warrantorref14_Check.f k a0_0 l0_1 a1_0 a1_1 a1_2 a1_3 a1_4).bind fun t567 => ((post_Post.f k a0_0 l0_1 a1_0 a1_1 a1_2 a1_3 a1_4).bind fun bt568 => ((post_Fault.f k a0_0 l0_1 a1_0 a1_1 a1_2 a1_3 a1_4).bind fun bt574 => ((warrantorlaw14_lives.f k).bind fun t580 => (if t580 = true then (if bt568.2.2 = t567 then (warrantorlaw14_PostTells.j0 k t567 (bt574.2.2 != t567) a0_0 l0_1 a1_0 a1_1 a1_2 a1_3 a1_4 bt568.1 bt568.2.1 bt574.1 bt574.2.1) else (warrantorlaw14_PostTells.j0 k t567 true a0_0 l0_1 a1_0 a1_1 a1_2 a1_3 a1_4 bt568.1 bt568.2.1 bt574.1 bt574.2.1)) else (warrantorlaw14_PostTells.j0 k t567 true a0_0 l0_1 a1_0 a1_1 a1_2 a1_3 a1_4 bt568.1 bt568.2.1 bt574.1 bt574.2.1)))))))) = some r := h
  clear h
  replace H := bd_ H
  obtain ⟨t565, A3, H⟩ := H
  (try dsimp only at H)
  by_cases c4 : t565 = true
  · subst c4
    replace H := ps1_ H
    replace H := bd_ H
    obtain ⟨t566, A5, H⟩ := H
    (try dsimp only at H)
    obtain rfl := Option.some.inj H
    go_enter Try.func3, Try.ntmps3
    go_wp2_with (first | ((with_reducible refine gate_dst (N := 2) rfl ?_); (try (refine gate_guard (by rfl) ?_; dsimp only)); refine bx_ (N := 2) (cs := #[.int .i64 a0_0, .slice A0_1 l0_1.length c0_1]) (t := 24) ?_; intro gb563 hg w6 hbox hb; have n_ := a_ (bs_ HB hb) (a_ (Aside0.mk hbox) (a_ (gs_ HB hg) (gs_ HB hg))); clear HB; obtain ⟨HB, BK563, GW563, GE563⟩ := n_; clear hb hbox hg) | ((with_reducible refine gate_dst (N := 3) rfl ?_); (try (refine gate_guard (by rfl) ?_; dsimp only)); refine bx_ (N := 3) (cs := #[.int .i64 a1_0, .int .i64 a1_1, .int .i64 a1_2, .int .i64 a1_3, .int .i64 a1_4]) (t := 26) ?_; intro gb564 hg w7 hbox hb; have n_ := a_ (bb_ BK563 hb) (a_ (bs_ HB hb) (a_ (Aside0.mk hbox) (a_ (gs_ HB hg) (a_ (gs_ HB hg) (a_ (nl_ BK563 hg) (ng_ BK563 hg)))))); clear BK563 HB; obtain ⟨BK563, HB, BK564, GW564, GE564, NB563_564, NB564_563⟩ := n_; clear hb hbox hg; have hnb8 := NB563_564.out; have hnc8 := NB564_563.out; obtain ⟨hcz9_0, hcz9_1, hfz9_0, hfz9_1⟩ := cz2_ BK563) | ((with_reducible refine gate_callee (f := 12) rfl ?_); refine goesL_ (some 14) rfl rfl Try.func12 (by kernel_rfl) rfl #[.slice A0_1 l0_1.length c0_1] rfl MP_ ?_; (with_reducible refine (warrantorref08_Large.calls _ _ l0_1 true _ ?side1 ?side2 A3.out).mono ?_); (case side1 => exact sd_ (Kd.C_below HR0_1.out HB.out)); (case side2 => exact HC0_1.out); rintro e w' ⟨rfl, ⟨nd, rfl⟩⟩; refine ⟨_, rfl, ?_⟩) | ((with_reducible refine gate_callee (f := 13) rfl ?_); refine goesL_ (some 15) rfl rfl Try.func13 (by kernel_rfl) rfl #[] rfl MP_ ?_; (with_reducible refine (warrantorlaw14_lives.calls k  t566 _ A5.out).mono ?_); rintro e w10 ⟨rfl, hb⟩; refine ⟨_, rfl, ?_⟩; have n_ := a_ (bb_ BK563 hb) (a_ (bb_ BK564 hb) (bs_ HB hb)); clear BK563 BK564 HB; obtain ⟨BK563, BK564, HB⟩ := n_; (try clear hb); (try clear hb2); (try clear hk); (try clear hi)))
    go_ret
    exact ⟨by first | rfl | (simp [errW_none, errW_some] <;> rfl) | (simp [*, errW_none, errW_some] <;> rfl), HB_⟩
  replace c4 := Bool.eq_false_iff.mpr c4
  subst c4
  replace H := ng1_ H
  replace H := bd_ H
  obtain ⟨t567, A11, H⟩ := H
  (try dsimp only at H)
  replace H := bd_ H
  obtain ⟨⟨t568, t569, t572⟩, A12, H⟩ := H
  (try dsimp only at H)
  replace H := bd_ H
  obtain ⟨⟨t574, t575, t578⟩, A13, H⟩ := H
  (try dsimp only at H)
  have HC14 := Aside0.mk H
  clear H
  go_enter Try.func3, Try.ntmps3
  go_upto_region 6 with (first | ((with_reducible refine gate_dst (N := 2) rfl ?_); (try (refine gate_guard (by rfl) ?_; dsimp only)); refine bx_ (N := 2) (cs := #[.int .i64 a0_0, .slice A0_1 l0_1.length c0_1]) (t := 24) ?_; intro gb563 hg w15 hbox hb; have n_ := a_ (bs_ HB hb) (a_ (Aside0.mk hbox) (a_ (gs_ HB hg) (gs_ HB hg))); clear HB; obtain ⟨HB, BK563, GW563, GE563⟩ := n_; clear hb hbox hg) | ((with_reducible refine gate_dst (N := 3) rfl ?_); (try (refine gate_guard (by rfl) ?_; dsimp only)); refine bx_ (N := 3) (cs := #[.int .i64 a1_0, .int .i64 a1_1, .int .i64 a1_2, .int .i64 a1_3, .int .i64 a1_4]) (t := 26) ?_; intro gb564 hg w16 hbox hb; have n_ := a_ (bb_ BK563 hb) (a_ (bs_ HB hb) (a_ (Aside0.mk hbox) (a_ (gs_ HB hg) (a_ (gs_ HB hg) (a_ (nl_ BK563 hg) (ng_ BK563 hg)))))); clear BK563 HB; obtain ⟨BK563, HB, BK564, GW564, GE564, NB563_564, NB564_563⟩ := n_; clear hb hbox hg; have hnb17 := NB563_564.out; have hnc17 := NB564_563.out; obtain ⟨hcz18_0, hcz18_1, hfz18_0, hfz18_1⟩ := cz2_ BK563) | ((with_reducible refine gate_callee (f := 12) rfl ?_); refine goesL_ (some 14) rfl rfl Try.func12 (by kernel_rfl) rfl #[.slice A0_1 l0_1.length c0_1] rfl MP_ ?_; (with_reducible refine (warrantorref08_Large.calls _ _ l0_1 false _ ?side1 ?side2 A3.out).mono ?_); (case side1 => exact sd_ (Kd.C_below HR0_1.out HB.out)); (case side2 => exact HC0_1.out); rintro e w' ⟨rfl, ⟨nd, rfl⟩⟩; refine ⟨_, rfl, ?_⟩; (try (rw [drewN_self w16]; generalize hq_ : World.drewN w16 _ = w16; have n0_ : Aside0 (w16.heap[gb563]? = some (.cells #[.int .i64 a0_0, .slice A0_1 l0_1.length c0_1] 24 (0, 0))) := ⟨by rw [← hq_]; exact (bk_ BK563.out)⟩; have n1_ : Aside0 (w16.heap[gb564]? = some (.cells #[.int .i64 a1_0, .int .i64 a1_1, .int .i64 a1_2, .int .i64 a1_3, .int .i64 a1_4] 26 (0, 0))) := ⟨by rw [← hq_]; exact (bk_ BK564.out)⟩; have n2_ : Aside0 (Below w.heap.size w w16) := ⟨by rw [← hq_]; exact HB_⟩; clear BK563 BK564 HB hq_; have BK563 := n0_; have BK564 := n1_; have HB := n2_; clear n0_ n1_ n2_; (try (obtain ⟨hczu_gb563_0, hczu_gb563_1, hfzu_gb563_0, hfzu_gb563_1⟩ := cz2_ BK563; have hczu_gb564_0 : w16.cell? ⟨gb564, 0, none⟩ = some (.int .i64 a1_0) := (blk_cell BK564.out 0).trans rfl; have hczu_gb564_1 : w16.cell? ⟨gb564, 1, none⟩ = some (.int .i64 a1_1) := (blk_cell BK564.out 1).trans rfl; have hczu_gb564_2 : w16.cell? ⟨gb564, 2, none⟩ = some (.int .i64 a1_2) := (blk_cell BK564.out 2).trans rfl; have hczu_gb564_3 : w16.cell? ⟨gb564, 3, none⟩ = some (.int .i64 a1_3) := (blk_cell BK564.out 3).trans rfl; have hczu_gb564_4 : w16.cell? ⟨gb564, 4, none⟩ = some (.int .i64 a1_4) := (blk_cell BK564.out 4).trans rfl; have hfzu_gb564_0 := blk_frozen BK564.out 0; have hfzu_gb564_1 := blk_frozen BK564.out 1; have hfzu_gb564_2 := blk_frozen BK564.out 2; have hfzu_gb564_3 := blk_frozen BK564.out 3; have hfzu_gb564_4 := blk_frozen BK564.out 4)))); have hcz19_0 : w16.cell? ⟨gb564, 0, none⟩ = some (.int .i64 a1_0) := (blk_cell BK564.out 0).trans rfl; have hcz19_1 : w16.cell? ⟨gb564, 1, none⟩ = some (.int .i64 a1_1) := (blk_cell BK564.out 1).trans rfl; have hcz19_2 : w16.cell? ⟨gb564, 2, none⟩ = some (.int .i64 a1_2) := (blk_cell BK564.out 2).trans rfl; have hcz19_3 : w16.cell? ⟨gb564, 3, none⟩ = some (.int .i64 a1_3) := (blk_cell BK564.out 3).trans rfl; have hcz19_4 : w16.cell? ⟨gb564, 4, none⟩ = some (.int .i64 a1_4) := (blk_cell BK564.out 4).trans rfl; have hfz19_0 := blk_frozen BK564.out 0; have hfz19_1 := blk_frozen BK564.out 1; have hfz19_2 := blk_frozen BK564.out 2; have hfz19_3 := blk_frozen BK564.out 3; have hfz19_4 := blk_frozen BK564.out 4) | ((with_reducible refine gate_callee (f := 14) rfl ?_); refine goesL_ (some 18) rfl rfl Try.func14 (by kernel_rfl) rfl #[.agg #[.int .i64 a0_0, .slice A0_1 l0_1.length c0_1], .agg #[.int .i64 a1_0, .int .i64 a1_1, .int .i64 a1_2, .int .i64 a1_3, .int .i64 a1_4]] rfl MP_ ?_; (with_reducible refine (warrantorref14_Check.calls k a0_0 _ _ l0_1 a1_0 a1_1 a1_2 a1_3 a1_4 t567 _ ?side1 ?side2 A11.out).mono ?_); (case side1 => exact sd_ (Kd.C_below HR0_1.out HB.out)); (case side2 => exact HC0_1.out); rintro e w20 ⟨rfl, hb⟩; refine ⟨_, rfl, ?_⟩; have n_ := a_ (bb_ BK563 hb) (a_ (bb_ BK564 hb) (bs_ HB hb)); clear BK563 BK564 HB; obtain ⟨BK563, BK564, HB⟩ := n_; (try clear hb); (try clear hb2); (try clear hk); (try clear hi); obtain ⟨hcz21_0, hcz21_1, hfz21_0, hfz21_1⟩ := cz2_ BK563; have hcz22_0 : w20.cell? ⟨gb564, 0, none⟩ = some (.int .i64 a1_0) := (blk_cell BK564.out 0).trans rfl; have hcz22_1 : w20.cell? ⟨gb564, 1, none⟩ = some (.int .i64 a1_1) := (blk_cell BK564.out 1).trans rfl; have hcz22_2 : w20.cell? ⟨gb564, 2, none⟩ = some (.int .i64 a1_2) := (blk_cell BK564.out 2).trans rfl; have hcz22_3 : w20.cell? ⟨gb564, 3, none⟩ = some (.int .i64 a1_3) := (blk_cell BK564.out 3).trans rfl; have hcz22_4 : w20.cell? ⟨gb564, 4, none⟩ = some (.int .i64 a1_4) := (blk_cell BK564.out 4).trans rfl; have hfz22_0 := blk_frozen BK564.out 0; have hfz22_1 := blk_frozen BK564.out 1; have hfz22_2 := blk_frozen BK564.out 2; have hfz22_3 := blk_frozen BK564.out 3; have hfz22_4 := blk_frozen BK564.out 4) | ((with_reducible refine gate_callee (f := 15) rfl ?_); refine goesL_ (some 22) rfl rfl Try.func15 (by kernel_rfl) rfl #[.agg #[.int .i64 a0_0, .slice A0_1 l0_1.length c0_1], .agg #[.int .i64 a1_0, .int .i64 a1_1, .int .i64 a1_2, .int .i64 a1_3, .int .i64 a1_4]] rfl MP_ ?_; (with_reducible refine (post_Post.calls k a0_0 _ _ l0_1 a1_0 a1_1 a1_2 a1_3 a1_4 t568 t569 t572 _ ?side1 ?side2 A12.out).mono ?_); (case side1 => exact sd_ (Kd.C_below HR0_1.out HB.out)); (case side2 => exact HC0_1.out); rintro e w23 ⟨v570, rfl, ho0, hb⟩; refine ⟨_, rfl, ?_⟩; have n_ := a_ (Aside0.mk (Kd.R_lower ho0 (below_size HB_))) (a_ (bb_ BK563 hb) (a_ (bb_ BK564 hb) (bs_ HB hb))); clear BK563 BK564 HB; obtain ⟨HO571, BK563, BK564, HB⟩ := n_; (try clear hb); (try clear hb2); (try clear hk); (try clear hi); (try clear ho0)) | ((with_reducible refine gate_dst (N := 6) rfl ?_); (try (refine gate_guard (by rfl) ?_; dsimp only)); refine bx_ (N := 6) (cs := #[.int .i64 0, .slice none 0 0]) (t := 24) ?_; intro gb573 hg w24 hbox hb; have n_ := a_ (rb_ HO571 hb) (a_ (bb_ BK563 hb) (a_ (bb_ BK564 hb) (a_ (bs_ HB hb) (a_ (Aside0.mk hbox) (a_ (gs_ HB hg) (a_ (gs_ HB hg) (a_ (nl_ BK563 hg) (a_ (ng_ BK563 hg) (a_ (nl_ BK564 hg) (ng_ BK564 hg)))))))))); clear HO571 BK563 BK564 HB; obtain ⟨HO571, BK563, BK564, HB, BK573, GW573, GE573, NB563_573, NB573_563, NB564_573, NB573_564⟩ := n_; clear hb hbox hg; have hnb25 := NB573_563.out; have hnc25 := NB563_573.out; have hnb26 := NB573_564.out; have hnc26 := NB564_573.out; obtain ⟨hcz27_0, hcz27_1, hfz27_0, hfz27_1⟩ := cz2_ BK573; obtain ⟨Ao28, co28, eo28⟩ := Kd.R_slice HO571.out; subst eo28; obtain ⟨hcz29_0, hcz29_1, hfz29_0, hfz29_1⟩ := cz2_ BK563; have hcz30_0 : w24.cell? ⟨gb564, 0, none⟩ = some (.int .i64 a1_0) := (blk_cell BK564.out 0).trans rfl; have hcz30_1 : w24.cell? ⟨gb564, 1, none⟩ = some (.int .i64 a1_1) := (blk_cell BK564.out 1).trans rfl; have hcz30_2 : w24.cell? ⟨gb564, 2, none⟩ = some (.int .i64 a1_2) := (blk_cell BK564.out 2).trans rfl; have hcz30_3 : w24.cell? ⟨gb564, 3, none⟩ = some (.int .i64 a1_3) := (blk_cell BK564.out 3).trans rfl; have hcz30_4 : w24.cell? ⟨gb564, 4, none⟩ = some (.int .i64 a1_4) := (blk_cell BK564.out 4).trans rfl; have hfz30_0 := blk_frozen BK564.out 0; have hfz30_1 := blk_frozen BK564.out 1; have hfz30_2 := blk_frozen BK564.out 2; have hfz30_3 := blk_frozen BK564.out 3; have hfz30_4 := blk_frozen BK564.out 4) | ((with_reducible refine gate_callee (f := 16) rfl ?_); refine goesL_ (some 28) rfl rfl Try.func16 (by kernel_rfl) rfl #[.agg #[.int .i64 a0_0, .slice A0_1 l0_1.length c0_1], .agg #[.int .i64 a1_0, .int .i64 a1_1, .int .i64 a1_2, .int .i64 a1_3, .int .i64 a1_4]] rfl MP_ ?_; (with_reducible refine (post_Fault.calls k a0_0 _ _ l0_1 a1_0 a1_1 a1_2 a1_3 a1_4 t574 t575 t578 _ ?side1 ?side2 A13.out).mono ?_); (case side1 => exact Kd.C_below HR0_1.out HB_); (case side2 => exact HC0_1.out); rintro e w31 ⟨v576, rfl, ho0, hb⟩; refine ⟨_, rfl, ?_⟩; have n_ := a_ (Aside0.mk (Kd.R_elder' (rd_ (rf2_ HO571 BK573 (.int .i64 t568) (.slice Ao28 t569.length co28))) (Kd.R_base ho0) hb)) (a_ (Aside0.mk (Kd.R_lower (Kd.R_new' ho0 (Kd.R_lt (rd_ (rf2_ HO571 BK573 (.int .i64 t568) (.slice Ao28 t569.length co28))))) (below_size HB_))) (a_ (bc_ #[.int .i64 a0_0, .slice A0_1 l0_1.length c0_1] 24 BK563 hb) (a_ (bc_ #[.int .i64 a1_0, .int .i64 a1_1, .int .i64 a1_2, .int .i64 a1_3, .int .i64 a1_4] 26 BK564 hb) (a_ (bc_ #[.int .i64 t568, .slice Ao28 t569.length co28] 24 BK573 hb) (bs_ HB hb))))); clear HO571 BK563 BK564 BK573 HB; obtain ⟨HO571, HO577, BK563, BK564, BK573, HB⟩ := n_; (try clear hb); (try clear hb2); (try clear hk); (try clear hi); (try clear ho0)) | ((with_reducible refine gate_dst (N := 8) rfl ?_); (try (refine gate_guard (by rfl) ?_; dsimp only)); refine bx_ (N := 8) (cs := #[.int .i64 0, .slice none 0 0]) (t := 24) ?_; intro gb579 hg w32 hbox hb; have n_ := a_ (rb_ HO571 hb) (a_ (rb_ HO577 hb) (a_ (bb_ BK563 hb) (a_ (bb_ BK564 hb) (a_ (bb_ BK573 hb) (a_ (bs_ HB hb) (a_ (Aside0.mk hbox) (a_ (gs_ HB hg) (a_ (gs_ HB hg) (a_ (nl_ BK563 hg) (a_ (ng_ BK563 hg) (a_ (nl_ BK564 hg) (a_ (ng_ BK564 hg) (a_ (nl_ BK573 hg) (ng_ BK573 hg)))))))))))))); clear HO571 HO577 BK563 BK564 BK573 HB; obtain ⟨HO571, HO577, BK563, BK564, BK573, HB, BK579, GW579, GE579, NB563_579, NB579_563, NB564_579, NB579_564, NB573_579, NB579_573⟩ := n_; clear hb hbox hg; have hnb33 := NB579_563.out; have hnc33 := NB563_579.out; have hnb34 := NB579_564.out; have hnc34 := NB564_579.out; have hnb35 := NB579_573.out; have hnc35 := NB573_579.out; obtain ⟨hcz36_0, hcz36_1, hfz36_0, hfz36_1⟩ := cz2_ BK579; obtain ⟨Ao37, co37, eo37⟩ := Kd.R_slice HO577.out; subst eo37))
  (try simp only [Act.put, List.setIfInBounds_toArray, List.set_cons_zero, List.set_cons_succ])
  go_cut [42] (fun v42 wc => ∃ (kq : Nat) (x42_13 : Bool), v42 = .bool x42_13 ∧ Aside0 (warrantorlaw14_PostTells.j0 kq t567 x42_13 a0_0 l0_1 a1_0 a1_1 a1_2 a1_3 a1_4 t568 t569 t574 t575 = some r) ∧ Aside0 (kq ≤ k) ∧ Aside0 (Kd.R (Kd.int .i64) 3 wc w.heap.size (fun k_ => some k_ ≠ ((.slice Ao37 t575.length co37) : Value).ownBlock) (.slice Ao28 t569.length co28) t569) ∧ Aside0 (Kd.R (Kd.int .i64) 3 wc w.heap.size (fun k_ => some k_ ≠ ((.slice Ao28 t569.length co28) : Value).ownBlock) (.slice Ao37 t575.length co37) t575) ∧ Aside0 (wc.heap[gb563]? = some (.cells #[.int .i64 a0_0, (.slice A0_1 l0_1.length c0_1)] 24 (0, 0))) ∧ Aside0 (wc.heap[gb564]? = some (.cells #[.int .i64 a1_0, .int .i64 a1_1, .int .i64 a1_2, .int .i64 a1_3, .int .i64 a1_4] 26 (0, 0))) ∧ Aside0 (wc.heap[gb573]? = some (.cells #[.int .i64 t568, (.slice Ao28 t569.length co28)] 24 (0, 0))) ∧ Aside0 (wc.heap[gb579]? = some (.cells #[.int .i64 t574, (.slice Ao37 t575.length co37)] 24 (0, 0))) ∧ Aside0 (Below w.heap.size w wc))
  case first =>
    have H := HC14.out
    clear HC14
    replace H := bd_ H
    obtain ⟨t580, A38, H⟩ := H
    (try dsimp only at H)
    by_cases c39 : t580 = true
    rotate_left
    · replace c39 := Bool.eq_false_iff.mpr c39
      subst c39
      replace H := ng1_ H
      have H' := Aside0.mk H
      clear H
      go_wp2_with (first | ((with_reducible refine gate_callee (f := 13) rfl ?_); refine goesL_ (some 31) rfl rfl Try.func13 (by kernel_rfl) rfl #[] rfl MP_ ?_; (with_reducible refine (warrantorlaw14_lives.calls k  false _ A38.out).mono ?_); rintro e w43 ⟨rfl, hb⟩; refine ⟨_, rfl, ?_⟩; have n_ := a_ (Aside0.mk (Kd.R_below (rd_ (rf2_ HO571 BK579 (.int .i64 t574) (.slice Ao37 t575.length co37))) hb)) (a_ (Aside0.mk (Kd.R_below (rd_ (rf2_ HO577 BK579 (.int .i64 t574) (.slice Ao37 t575.length co37))) hb)) (a_ (bc_ #[.int .i64 a0_0, .slice A0_1 l0_1.length c0_1] 24 BK563 hb) (a_ (bc_ #[.int .i64 a1_0, .int .i64 a1_1, .int .i64 a1_2, .int .i64 a1_3, .int .i64 a1_4] 26 BK564 hb) (a_ (bc_ #[.int .i64 t568, .slice Ao28 t569.length co28] 24 BK573 hb) (a_ (bc_ #[.int .i64 t574, .slice Ao37 t575.length co37] 24 BK579 hb) (bs_ HB hb)))))); clear HO571 HO577 BK563 BK564 BK573 BK579 HB; obtain ⟨HO571, HO577, BK563, BK564, BK573, BK579, HB⟩ := n_; (try clear hb); (try clear hb2); (try clear hk); (try clear hi)))
      go_meet
      case rel => exact ⟨_, (true), (by first | rfl | (simp; done) | (simp [*]; done)), H', ⟨by first | omega | exact Nat.le_refl _⟩, ⟨by (with_reducible repeat (first | apply Kd.R_alloc | apply Kd.R_drewN | apply Kd.R_drew)); exact Kd.R_mono HO571.out (fun _ hk => hk.2)⟩, ⟨by (with_reducible repeat (first | apply Kd.R_alloc | apply Kd.R_drewN | apply Kd.R_drew)); exact Kd.R_mono HO577.out (fun _ hk => hk.2)⟩, ⟨by (with_reducible repeat (first | refine blk_drewN ?_ _ | refine blk_drew ?_ | refine blk_alloc ?_ _)); exact BK563.out⟩, ⟨by (with_reducible repeat (first | refine blk_drewN ?_ _ | refine blk_drew ?_ | refine blk_alloc ?_ _)); exact BK564.out⟩, ⟨by (with_reducible repeat (first | refine blk_drewN ?_ _ | refine blk_drew ?_ | refine blk_alloc ?_ _)); exact BK573.out⟩, ⟨by (with_reducible repeat (first | refine blk_drewN ?_ _ | refine blk_drew ?_ | refine blk_alloc ?_ _)); exact BK579.out⟩, ⟨HB_⟩⟩
    subst c39
    replace H := ps1_ H
    by_cases c40 : t572 = t567
    rotate_left
    · rw [if_neg c40] at H
      have c40b0 : (t572 == t567) = false := beq_eq_false_iff_ne.mpr c40
      have c40b1 : (t572 != t567) = true := bne_iff_ne.mpr c40
      (first | rw [c40b0] | (simp only [i64_w, i32_w]; rw [c40b0]) | skip)
      have H' := Aside0.mk H
      clear H
      go_wp2_with (first | ((with_reducible refine gate_callee (f := 13) rfl ?_); refine goesL_ (some 31) rfl rfl Try.func13 (by kernel_rfl) rfl #[] rfl MP_ ?_; (with_reducible refine (warrantorlaw14_lives.calls k  true _ A38.out).mono ?_); rintro e w42 ⟨rfl, hb⟩; refine ⟨_, rfl, ?_⟩; have n_ := a_ (Aside0.mk (Kd.R_below (rd_ (rf2_ HO571 BK579 (.int .i64 t574) (.slice Ao37 t575.length co37))) hb)) (a_ (Aside0.mk (Kd.R_below (rd_ (rf2_ HO577 BK579 (.int .i64 t574) (.slice Ao37 t575.length co37))) hb)) (a_ (bc_ #[.int .i64 a0_0, .slice A0_1 l0_1.length c0_1] 24 BK563 hb) (a_ (bc_ #[.int .i64 a1_0, .int .i64 a1_1, .int .i64 a1_2, .int .i64 a1_3, .int .i64 a1_4] 26 BK564 hb) (a_ (bc_ #[.int .i64 t568, .slice Ao28 t569.length co28] 24 BK573 hb) (a_ (bc_ #[.int .i64 t574, .slice Ao37 t575.length co37] 24 BK579 hb) (bs_ HB hb)))))); clear HO571 HO577 BK563 BK564 BK573 BK579 HB; obtain ⟨HO571, HO577, BK563, BK564, BK573, BK579, HB⟩ := n_; (try clear hb); (try clear hb2); (try clear hk); (try clear hi)))
      go_meet
      case rel => exact ⟨_, (true), (by first | rfl | (simp; done) | (simp [*]; done)), H', ⟨by first | omega | exact Nat.le_refl _⟩, ⟨by (with_reducible repeat (first | apply Kd.R_alloc | apply Kd.R_drewN | apply Kd.R_drew)); exact Kd.R_mono HO571.out (fun _ hk => hk.2)⟩, ⟨by (with_reducible repeat (first | apply Kd.R_alloc | apply Kd.R_drewN | apply Kd.R_drew)); exact Kd.R_mono HO577.out (fun _ hk => hk.2)⟩, ⟨by (with_reducible repeat (first | refine blk_drewN ?_ _ | refine blk_drew ?_ | refine blk_alloc ?_ _)); exact BK563.out⟩, ⟨by (with_reducible repeat (first | refine blk_drewN ?_ _ | refine blk_drew ?_ | refine blk_alloc ?_ _)); exact BK564.out⟩, ⟨by (with_reducible repeat (first | refine blk_drewN ?_ _ | refine blk_drew ?_ | refine blk_alloc ?_ _)); exact BK573.out⟩, ⟨by (with_reducible repeat (first | refine blk_drewN ?_ _ | refine blk_drew ?_ | refine blk_alloc ?_ _)); exact BK579.out⟩, ⟨HB_⟩⟩
    rw [if_pos c40] at H
    have c40b0 : (t572 == t567) = true := beq_iff_eq.mpr c40
    have c40b1 : (t572 != t567) = false := bne_eq_false_iff_eq.mpr c40
    clear c40
    (first | rw [c40b0] | (simp only [i64_w, i32_w]; rw [c40b0]) | skip)
    have H' := Aside0.mk H
    clear H
    go_wp2_with (first | ((with_reducible refine gate_callee (f := 13) rfl ?_); refine goesL_ (some 31) rfl rfl Try.func13 (by kernel_rfl) rfl #[] rfl MP_ ?_; (with_reducible refine (warrantorlaw14_lives.calls k  true _ A38.out).mono ?_); rintro e w41 ⟨rfl, hb⟩; refine ⟨_, rfl, ?_⟩; have n_ := a_ (Aside0.mk (Kd.R_below (rd_ (rf2_ HO571 BK579 (.int .i64 t574) (.slice Ao37 t575.length co37))) hb)) (a_ (Aside0.mk (Kd.R_below (rd_ (rf2_ HO577 BK579 (.int .i64 t574) (.slice Ao37 t575.length co37))) hb)) (a_ (bc_ #[.int .i64 a0_0, .slice A0_1 l0_1.length c0_1] 24 BK563 hb) (a_ (bc_ #[.int .i64 a1_0, .int .i64 a1_1, .int .i64 a1_2, .int .i64 a1_3, .int .i64 a1_4] 26 BK564 hb) (a_ (bc_ #[.int .i64 t568, .slice Ao28 t569.length co28] 24 BK573 hb) (a_ (bc_ #[.int .i64 t574, .slice Ao37 t575.length co37] 24 BK579 hb) (bs_ HB hb)))))); clear HO571 HO577 BK563 BK564 BK573 BK579 HB; obtain ⟨HO571, HO577, BK563, BK564, BK573, BK579, HB⟩ := n_; (try clear hb); (try clear hb2); (try clear hk); (try clear hi)))
    go_meet
    case rel => exact ⟨_, ((t578 != t567)), (by first | rfl | (simp; done) | (simp [*]; done)), H', ⟨by first | omega | exact Nat.le_refl _⟩, ⟨by (with_reducible repeat (first | apply Kd.R_alloc | apply Kd.R_drewN | apply Kd.R_drew)); exact Kd.R_mono HO571.out (fun _ hk => hk.2)⟩, ⟨by (with_reducible repeat (first | apply Kd.R_alloc | apply Kd.R_drewN | apply Kd.R_drew)); exact Kd.R_mono HO577.out (fun _ hk => hk.2)⟩, ⟨by (with_reducible repeat (first | refine blk_drewN ?_ _ | refine blk_drew ?_ | refine blk_alloc ?_ _)); exact BK563.out⟩, ⟨by (with_reducible repeat (first | refine blk_drewN ?_ _ | refine blk_drew ?_ | refine blk_alloc ?_ _)); exact BK564.out⟩, ⟨by (with_reducible repeat (first | refine blk_drewN ?_ _ | refine blk_drew ?_ | refine blk_alloc ?_ _)); exact BK573.out⟩, ⟨by (with_reducible repeat (first | refine blk_drewN ?_ _ | refine blk_drew ?_ | refine blk_alloc ?_ _)); exact BK579.out⟩, ⟨HB_⟩⟩
  case rest =>
    clear HC14
    try clear c1
    try clear c2
    try clear p2
    try clear c3
    try clear c4
    try clear c8
    try clear c12
    try clear c13
    try clear c14
    try clear c15
    try clear c16
    try clear c17
    try clear c25
    try clear c26
    try clear c33
    try clear c34
    try clear c35
    try clear c39
    try clear c40
    try clear c40b0
    try clear c40b1
    try clear hcz18_0
    try clear hcz18_1
    try clear hcz19_0
    try clear hcz19_1
    try clear hcz19_2
    try clear hcz19_3
    try clear hcz19_4
    try clear hcz21_0
    try clear hcz21_1
    try clear hcz22_0
    try clear hcz22_1
    try clear hcz22_2
    try clear hcz22_3
    try clear hcz22_4
    try clear hcz27_0
    try clear hcz27_1
    try clear hcz29_0
    try clear hcz29_1
    try clear hcz30_0
    try clear hcz30_1
    try clear hcz30_2
    try clear hcz30_3
    try clear hcz30_4
    try clear hcz36_0
    try clear hcz36_1
    try clear hcz9_0
    try clear hcz9_1
    try clear hfz18_0
    try clear hfz18_1
    try clear hfz19_0
    try clear hfz19_1
    try clear hfz19_2
    try clear hfz19_3
    try clear hfz19_4
    try clear hfz21_0
    try clear hfz21_1
    try clear hfz22_0
    try clear hfz22_1
    try clear hfz22_2
    try clear hfz22_3
    try clear hfz22_4
    try clear hfz27_0
    try clear hfz27_1
    try clear hfz29_0
    try clear hfz29_1
    try clear hfz30_0
    try clear hfz30_1
    try clear hfz30_2
    try clear hfz30_3
    try clear hfz30_4
    try clear hfz36_0
    try clear hfz36_1
    try clear hfz9_0
    try clear hfz9_1
    obtain ⟨kq, x42_13, rfl, HA, HJ13, HO_574001, HO_580001, BK563, BK564, BK573, BK579, HB⟩ := hcut
    cases kq with
    | zero => exact absurd HA.out (by simp [warrantorlaw14_PostTells.j0])
    | succ kj13 =>
      have H := HA.out
      clear HA
      simp only [warrantorlaw14_PostTells.j0] at H
      by_cases c44 : x42_13 = true
      · subst c44
        replace H := ps1_ H
        exact absurd H (by simp)
      replace c44 := Bool.eq_false_iff.mpr c44
      subst c44
      replace H := ng1_ H
      by_cases c45 : t567 = 0
      rotate_left
      · rw [if_neg c45] at H
        have c45b0 : (t567 == 0) = false := beq_eq_false_iff_ne.mpr c45
        have c45b1 : (t567 != 0) = true := bne_iff_ne.mpr c45
        replace H := bd_ H
        obtain ⟨t581, A95, H⟩ := H
        (try dsimp only at H)
        replace H := yes_ H
        obtain ⟨c96, H⟩ := H
        subst c96
        replace H := bd_ H
        obtain ⟨t582, A97, H⟩ := H
        (try dsimp only at H)
        replace H := yes_ H
        obtain ⟨c98, H⟩ := H
        subst c98
        replace H := bd_ H
        obtain ⟨t583, A99, H⟩ := H
        (try dsimp only at H)
        by_cases c100 : t583 = true
        · subst c100
          replace H := ps1_ H
          exact absurd H (by simp)
        replace c100 := Bool.eq_false_iff.mpr c100
        subst c100
        replace H := ng1_ H
        replace H := bd_ H
        obtain ⟨t584, A101, H⟩ := H
        (try dsimp only at H)
        obtain rfl := Option.some.inj H
        have hnb102 := NB573_563.out
        have hnc102 := NB563_573.out
        have hnb103 := NB573_564.out
        have hnc103 := NB564_573.out
        have hnb104 := NB573_579.out
        have hnc104 := NB579_573.out
        obtain ⟨hcz105_0, hcz105_1, hfz105_0, hfz105_1⟩ := cz2_ BK573
        go_wp2_with (first | ((with_reducible refine gate_callee (f := 17) rfl ?_); refine goesL_ (some 47) rfl rfl Try.func17 (by kernel_rfl) rfl #[.agg #[.int .i64 t568, .slice Ao28 t569.length co28], .agg #[.int .i64 0, .slice none 0 0]] rfl MP_ ?_; (refine (warrantorref08_Same.calls kj13 t568 _ _ t569 0 _ _ ([] : List Int) true _ ?side1 ?side2 ?side3 ?side4 A95.out).mono ?_); (case side1 => repeat (first | exact (Kd.R_reads' HO_574001.out).2.2 | (with_reducible refine Kd.C_alloc ?_ _) | (with_reducible refine Kd.C_drewN ?_ _) | (with_reducible refine Kd.C_drew ?_))); (case side2 => exact (Kd.R_reads' HO_574001.out).2.1); (case side3 => exact Kd.C_nil _ _); (case side4 => exact Nat.le_refl _); rintro e w106 ⟨rfl, hb⟩; refine ⟨_, rfl, ?_⟩; have n_ := a_ (rb_ HO_574001 hb) (a_ (rb_ HO_580001 hb) (a_ (bb_ BK563 hb) (a_ (bb_ BK564 hb) (a_ (bb_ BK573 hb) (a_ (bb_ BK579 hb) (bs_ HB hb)))))); clear HO_574001 HO_580001 BK563 BK564 BK573 BK579 HB; obtain ⟨HO_574001, HO_580001, BK563, BK564, BK573, BK579, HB⟩ := n_; (try clear hb); (try clear hb2); (try clear hk); (try clear hi); have hnb107 := NB579_563.out; have hnc107 := NB563_579.out; have hnb108 := NB579_564.out; have hnc108 := NB564_579.out; obtain ⟨hcz109_0, hcz109_1, hfz109_0, hfz109_1⟩ := cz2_ BK579; (try clear A95)) | (go_at_call 17; (refine (warrantorref08_Same.calls kj13 t574 _ _ t575 0 _ _ ([] : List Int) true _ ?side1 ?side2 ?side3 ?side4 A97.out).mono ?_); (case side1 => repeat (first | exact (Kd.R_reads' HO_580001.out).2.2 | (with_reducible refine Kd.C_alloc ?_ _) | (with_reducible refine Kd.C_drewN ?_ _) | (with_reducible refine Kd.C_drew ?_))); (case side2 => exact (Kd.R_reads' HO_580001.out).2.1); (case side3 => exact Kd.C_nil _ _); (case side4 => exact Nat.le_refl _); rintro e w110 ⟨rfl, hb⟩; have n_ := a_ (rb_ HO_574001 hb) (a_ (rb_ HO_580001 hb) (a_ (bb_ BK563 hb) (a_ (bb_ BK564 hb) (a_ (bb_ BK573 hb) (a_ (bb_ BK579 hb) (bs_ HB hb)))))); clear HO_574001 HO_580001 BK563 BK564 BK573 BK579 HB; obtain ⟨HO_574001, HO_580001, BK563, BK564, BK573, BK579, HB⟩ := n_; (try clear hb); (try clear hb2); (try clear hk); (try clear hi); have hnb111 := NB563_564.out; have hnc111 := NB564_563.out; obtain ⟨hcz112_0, hcz112_1, hfz112_0, hfz112_1⟩ := cz2_ BK563; have hcz113_0 : w110.cell? ⟨gb564, 0, none⟩ = some (.int .i64 a1_0) := (blk_cell BK564.out 0).trans rfl; have hcz113_1 : w110.cell? ⟨gb564, 1, none⟩ = some (.int .i64 a1_1) := (blk_cell BK564.out 1).trans rfl; have hcz113_2 : w110.cell? ⟨gb564, 2, none⟩ = some (.int .i64 a1_2) := (blk_cell BK564.out 2).trans rfl; have hcz113_3 : w110.cell? ⟨gb564, 3, none⟩ = some (.int .i64 a1_3) := (blk_cell BK564.out 3).trans rfl; have hcz113_4 : w110.cell? ⟨gb564, 4, none⟩ = some (.int .i64 a1_4) := (blk_cell BK564.out 4).trans rfl; have hfz113_0 := blk_frozen BK564.out 0; have hfz113_1 := blk_frozen BK564.out 1; have hfz113_2 := blk_frozen BK564.out 2; have hfz113_3 := blk_frozen BK564.out 3; have hfz113_4 := blk_frozen BK564.out 4) | (go_at_call 18; (with_reducible refine (post_May.calls kj13 a0_0 _ _ l0_1 a1_0 a1_1 a1_2 a1_3 a1_4 false _ ?side1 ?side2 A99.out).mono ?_); (case side1 => exact sd_ (Kd.C_below HR0_1.out HB.out)); (case side2 => exact HC0_1.out); rintro e w114 ⟨rfl, hb⟩; have n_ := a_ (rb_ HO_574001 hb) (a_ (rb_ HO_580001 hb) (a_ (bb_ BK563 hb) (a_ (bb_ BK564 hb) (a_ (bb_ BK573 hb) (a_ (bb_ BK579 hb) (bs_ HB hb)))))); clear HO_574001 HO_580001 BK563 BK564 BK573 BK579 HB; obtain ⟨HO_574001, HO_580001, BK563, BK564, BK573, BK579, HB⟩ := n_; (try clear hb); (try clear hb2); (try clear hk); (try clear hi); obtain ⟨hcz115_0, hcz115_1, hfz115_0, hfz115_1⟩ := cz2_ BK563; have hcz116_0 : w114.cell? ⟨gb564, 0, none⟩ = some (.int .i64 a1_0) := (blk_cell BK564.out 0).trans rfl; have hcz116_1 : w114.cell? ⟨gb564, 1, none⟩ = some (.int .i64 a1_1) := (blk_cell BK564.out 1).trans rfl; have hcz116_2 : w114.cell? ⟨gb564, 2, none⟩ = some (.int .i64 a1_2) := (blk_cell BK564.out 2).trans rfl; have hcz116_3 : w114.cell? ⟨gb564, 3, none⟩ = some (.int .i64 a1_3) := (blk_cell BK564.out 3).trans rfl; have hcz116_4 : w114.cell? ⟨gb564, 4, none⟩ = some (.int .i64 a1_4) := (blk_cell BK564.out 4).trans rfl; have hfz116_0 := blk_frozen BK564.out 0; have hfz116_1 := blk_frozen BK564.out 1; have hfz116_2 := blk_frozen BK564.out 2; have hfz116_3 := blk_frozen BK564.out 3; have hfz116_4 := blk_frozen BK564.out 4) | (go_at_call 19; (with_reducible refine (post_Must.calls kj13 a0_0 _ _ l0_1 a1_0 a1_1 a1_2 a1_3 a1_4 t584 _ ?side1 ?side2 A101.out).mono ?_); (case side1 => exact sd_ (Kd.C_below HR0_1.out HB.out)); (case side2 => exact HC0_1.out); rintro e w117 ⟨rfl, hb⟩; have n_ := a_ (rb_ HO_574001 hb) (a_ (rb_ HO_580001 hb) (a_ (bb_ BK563 hb) (a_ (bb_ BK564 hb) (a_ (bb_ BK573 hb) (a_ (bb_ BK579 hb) (bs_ HB hb)))))); clear HO_574001 HO_580001 BK563 BK564 BK573 BK579 HB; obtain ⟨HO_574001, HO_580001, BK563, BK564, BK573, BK579, HB⟩ := n_; (try clear hb); (try clear hb2); (try clear hk); (try clear hi)))
        go_ret
        exact ⟨by first | rfl | (simp [errW_none, errW_some] <;> rfl) | (simp [*, errW_none, errW_some] <;> rfl), HB_⟩
      rw [if_pos c45] at H
      have c45b0 : (t567 == 0) = true := beq_iff_eq.mpr c45
      have c45b1 : (t567 != 0) = false := bne_eq_false_iff_eq.mpr c45
      clear c45
      replace H := bd_ H
      obtain ⟨⟨t585, t586⟩, A46, H⟩ := H
      (try dsimp only at H)
      have HC47 := Aside0.mk H
      clear H
      have hnb48 := NB563_564.out
      have hnc48 := NB564_563.out
      have hnb49 := NB563_573.out
      have hnc49 := NB573_563.out
      have hnb50 := NB563_579.out
      have hnc50 := NB579_563.out
      obtain ⟨hcz51_0, hcz51_1, hfz51_0, hfz51_1⟩ := cz2_ BK563
      have hnb52 := NB564_573.out
      have hnc52 := NB573_564.out
      have hnb53 := NB564_579.out
      have hnc53 := NB579_564.out
      have hcz54_0 : wc.cell? ⟨gb564, 0, none⟩ = some (.int .i64 a1_0) := (blk_cell BK564.out 0).trans rfl
      have hcz54_1 : wc.cell? ⟨gb564, 1, none⟩ = some (.int .i64 a1_1) := (blk_cell BK564.out 1).trans rfl
      have hcz54_2 : wc.cell? ⟨gb564, 2, none⟩ = some (.int .i64 a1_2) := (blk_cell BK564.out 2).trans rfl
      have hcz54_3 : wc.cell? ⟨gb564, 3, none⟩ = some (.int .i64 a1_3) := (blk_cell BK564.out 3).trans rfl
      have hcz54_4 : wc.cell? ⟨gb564, 4, none⟩ = some (.int .i64 a1_4) := (blk_cell BK564.out 4).trans rfl
      have hfz54_0 := blk_frozen BK564.out 0
      have hfz54_1 := blk_frozen BK564.out 1
      have hfz54_2 := blk_frozen BK564.out 2
      have hfz54_3 := blk_frozen BK564.out 3
      have hfz54_4 := blk_frozen BK564.out 4
      go_upto_region 11 with (first | ((with_reducible refine gate_callee (f := 20) rfl ?_); refine goesL_ (some 67) rfl rfl Try.func20 (by kernel_rfl) rfl #[.agg #[.int .i64 a0_0, .slice A0_1 l0_1.length c0_1], .agg #[.int .i64 a1_0, .int .i64 a1_1, .int .i64 a1_2, .int .i64 a1_3, .int .i64 a1_4]] rfl MP_ ?_; (with_reducible refine (warrantorref14_Fault.calls kj13 a0_0 (fun k_ => k_ < w.heap.size) _ _ l0_1 a1_0 a1_1 a1_2 a1_3 a1_4 t585 t586 _ ?side1 A46.out).mono ?_); (case side1 => exact Kd.V_mk HC0_1.out (Kd.F_below (Kd.C_F (Kd.heap_int .i64) HR0_1.out) HB_)); rintro e w55 ⟨v587, rfl, ho0, hb⟩; refine ⟨_, rfl, ?_⟩; have n_ := a_ (rb_ HO_574001 hb) (a_ (rb_ HO_580001 hb) (a_ (Aside0.mk (Kd.V_lower (Kd.V_mono (ok' := fun k_ => some k_ ≠ (.slice Ao28 t569.length co28 : Value).ownBlock ∧ some k_ ≠ (.slice Ao37 t575.length co37 : Value).ownBlock ∧ k_ ≠ gb563 ∧ k_ ≠ gb564 ∧ k_ ≠ gb573 ∧ k_ ≠ gb579) ho0 (fun k_ hk_ => ⟨Or.elim hk_ (fun hs_ => fun e_ => Nat.not_le.2 hs_ (Kd.R_base HO_574001.out k_ e_.symm)) (fun hn_ => (Kd.fresh' (Kd.R_lt (rd_ HO_574001.out)) k_ hn_)), Or.elim hk_ (fun hs_ => fun e_ => Nat.not_le.2 hs_ (Kd.R_base HO_580001.out k_ e_.symm)) (fun hn_ => (Kd.fresh' (Kd.R_lt (rd_ HO_580001.out)) k_ hn_)), Or.elim hk_ (fun hs_ => fun e_ => Nat.not_le.2 hs_ (by rw [e_]; exact GW563.out)) (fun hn_ => (Kd.freshB (g := gb563) (o := .cells #[.int .i64 a0_0, .slice A0_1 l0_1.length c0_1] 24 (0, 0)) (bk_ BK563.out) k_ hn_)), Or.elim hk_ (fun hs_ => fun e_ => Nat.not_le.2 hs_ (by rw [e_]; exact GW564.out)) (fun hn_ => (Kd.freshB (g := gb564) (o := .cells #[.int .i64 a1_0, .int .i64 a1_1, .int .i64 a1_2, .int .i64 a1_3, .int .i64 a1_4] 26 (0, 0)) (bk_ BK564.out) k_ hn_)), Or.elim hk_ (fun hs_ => fun e_ => Nat.not_le.2 hs_ (by rw [e_]; exact GW573.out)) (fun hn_ => (Kd.freshB (g := gb573) (o := .cells #[.int .i64 t568, .slice Ao28 t569.length co28] 24 (0, 0)) (bk_ BK573.out) k_ hn_)), Or.elim hk_ (fun hs_ => fun e_ => Nat.not_le.2 hs_ (by rw [e_]; exact GW579.out)) (fun hn_ => (Kd.freshB (g := gb579) (o := .cells #[.int .i64 t574, .slice Ao37 t575.length co37] 24 (0, 0)) (bk_ BK579.out) k_ hn_))⟩)) (below_size HB_))) (a_ (bb_ BK563 hb) (a_ (bb_ BK564 hb) (a_ (bb_ BK573 hb) (a_ (bb_ BK579 hb) (bs_ HB hb))))))); clear HO_574001 HO_580001 BK563 BK564 BK573 BK579 HB; obtain ⟨HO_574001, HO_580001, HO588, BK563, BK564, BK573, BK579, HB⟩ := n_; (try clear hb); (try clear hb2); (try clear hk); (try clear hi); (try clear ho0)) | ((with_reducible refine gate_dst (N := 10) rfl ?_); (try (refine gate_guard (by rfl) ?_; dsimp only)); refine bx_ (N := 10) (cs := #[.int .i64 0, .slice none 0 0]) (t := 24) ?_; intro gb589 hg w56 hbox hb; have n_ := a_ (rb_ HO_574001 hb) (a_ (rb_ HO_580001 hb) (a_ (Aside0.mk (Kd.V_below (Kd.V_elderB (by (with_reducible repeat (first | apply Kd.V_alloc | apply Kd.V_drewN | apply Kd.V_drew)); exact HO588.out) gb589 (Nat.le_of_eq hg.symm)) hb)) (a_ (bb_ BK563 hb) (a_ (bb_ BK564 hb) (a_ (bb_ BK573 hb) (a_ (bb_ BK579 hb) (a_ (bs_ HB hb) (a_ (Aside0.mk hbox) (a_ (gs_ HB hg) (a_ (gs_ HB hg) (a_ (nl_ BK563 hg) (a_ (ng_ BK563 hg) (a_ (nl_ BK564 hg) (a_ (ng_ BK564 hg) (a_ (nl_ BK573 hg) (a_ (ng_ BK573 hg) (a_ (nl_ BK579 hg) (ng_ BK579 hg)))))))))))))))))); clear HO_574001 HO_580001 HO588 BK563 BK564 BK573 BK579 HB; obtain ⟨HO_574001, HO_580001, HO588, BK563, BK564, BK573, BK579, HB, BK589, GW589, GE589, NB563_589, NB589_563, NB564_589, NB589_564, NB573_589, NB589_573, NB579_589, NB589_579⟩ := n_; clear hb hbox hg; have hnb57 := NB589_563.out; have hnc57 := NB563_589.out; have hnb58 := NB589_564.out; have hnc58 := NB564_589.out; have hnb59 := NB589_573.out; have hnc59 := NB573_589.out; have hnb60 := NB589_579.out; have hnc60 := NB579_589.out; obtain ⟨hcz61_0, hcz61_1, hfz61_0, hfz61_1⟩ := cz2_ BK589; obtain ⟨Ao62, co62, eo62⟩ := Kd.V_slice HO588.out; subst eo62))
      (try simp only [Act.put, List.setIfInBounds_toArray, List.set_cons_zero, List.set_cons_succ])
      go_cut [11] (fun v11 wc => ∃ (kq : Nat) (x11_46 : Bool), v11 = .bool x11_46 ∧ Aside0 (warrantorlaw14_PostTells.j1 kq x11_46 a0_0 l0_1 a1_0 a1_1 a1_2 a1_3 a1_4 t568 t569 t574 t575 t585 t586 = some r) ∧ Aside0 (kq ≤ kj13) ∧ Aside0 (Kd.R (Kd.int .i64) 3 wc w.heap.size (fun k_ => some k_ ≠ ((.slice Ao37 t575.length co37) : Value).ownBlock) (.slice Ao28 t569.length co28) t569) ∧ Aside0 (Kd.R (Kd.int .i64) 3 wc w.heap.size (fun k_ => some k_ ≠ ((.slice Ao28 t569.length co28) : Value).ownBlock) (.slice Ao37 t575.length co37) t575) ∧ Aside0 (Kd.V (Kd.int .i64) 3 wc w.heap.size (fun k_ => some k_ ≠ ((.slice Ao28 t569.length co28) : Value).ownBlock ∧ some k_ ≠ ((.slice Ao37 t575.length co37) : Value).ownBlock ∧ k_ ≠ gb563 ∧ k_ ≠ gb564 ∧ k_ ≠ gb573 ∧ k_ ≠ gb579 ∧ k_ ≠ gb589) (.slice Ao62 t586.length co62) t586) ∧ Aside0 (wc.heap[gb563]? = some (.cells #[.int .i64 a0_0, (.slice A0_1 l0_1.length c0_1)] 24 (0, 0))) ∧ Aside0 (wc.heap[gb564]? = some (.cells #[.int .i64 a1_0, .int .i64 a1_1, .int .i64 a1_2, .int .i64 a1_3, .int .i64 a1_4] 26 (0, 0))) ∧ Aside0 (wc.heap[gb573]? = some (.cells #[.int .i64 t568, (.slice Ao28 t569.length co28)] 24 (0, 0))) ∧ Aside0 (wc.heap[gb579]? = some (.cells #[.int .i64 t574, (.slice Ao37 t575.length co37)] 24 (0, 0))) ∧ Aside0 (wc.heap[gb589]? = some (.cells #[.int .i64 t585, (.slice Ao62 t586.length co62)] 24 (0, 0))) ∧ Aside0 (Below w.heap.size w wc))
      case first =>
        have H := HC47.out
        clear HC47
        by_cases c63 : (t586.length : Int) > 0
        rotate_left
        · rw [if_neg c63] at H
          have c63b0 : decide (0 < (t586.length : Int)) = false := decide_eq_false c63
          have c63b1 : decide (0 < t586.length) = false := decide_eq_false (by omega)
          clear c63
          (first | rw [c63b0] | (simp only [i64_w, i32_w]; rw [c63b0]) | skip)
          have H' := Aside0.mk H
          clear H
          have hnb75 := NB589_563.out
          have hnc75 := NB563_589.out
          have hnb76 := NB589_564.out
          have hnc76 := NB564_589.out
          have hnb77 := NB589_573.out
          have hnc77 := NB573_589.out
          have hnb78 := NB589_579.out
          have hnc78 := NB579_589.out
          obtain ⟨hcz79_0, hcz79_1, hfz79_0, hfz79_1⟩ := cz2_ BK589
          go_wp2
          go_meet
          case rel => exact ⟨_, (false), (by first | rfl | (simp; done) | (simp [*]; done)), H', ⟨by have := HJ13.out; first | omega | exact Nat.le_refl _⟩, ⟨by (with_reducible repeat (first | apply Kd.R_alloc | apply Kd.R_drewN | apply Kd.R_drew)); exact Kd.R_mono (Kd.R_far (p := ⟨gb589, 1, none⟩) (Kd.R_far (p := ⟨gb589, 0, none⟩) (Kd.R_types HO_574001.out BK589.out (by decide)) (fun _ hk => hk.2) (.int .i64 t585)) (fun _ hk => hk.2) (.slice Ao62 t586.length co62)) (fun _ hk => hk.1)⟩, ⟨by (with_reducible repeat (first | apply Kd.R_alloc | apply Kd.R_drewN | apply Kd.R_drew)); exact Kd.R_mono (Kd.R_far (p := ⟨gb589, 1, none⟩) (Kd.R_far (p := ⟨gb589, 0, none⟩) (Kd.R_types HO_580001.out BK589.out (by decide)) (fun _ hk => hk.2) (.int .i64 t585)) (fun _ hk => hk.2) (.slice Ao62 t586.length co62)) (fun _ hk => hk.1)⟩, ⟨by (with_reducible repeat (first | apply Kd.V_alloc | apply Kd.V_drewN | apply Kd.V_drew)); exact Kd.V_mono (Kd.V_far (p := ⟨gb589, 1, none⟩) (Kd.V_far (p := ⟨gb589, 0, none⟩) (Kd.V_mono HO588.out (fun k_ hk => (⟨hk, hk.2⟩ : _ ∧ k_ ≠ gb589))) (fun _ hk => hk.2) (.int .i64 t585)) (fun _ hk => hk.2) (.slice Ao62 t586.length co62)) (fun _ hk => ⟨hk.1.1.1, ⟨hk.1.1.2.1, ⟨hk.1.1.2.2.1, ⟨hk.1.1.2.2.2.1, ⟨hk.1.1.2.2.2.2.1, ⟨hk.1.1.2.2.2.2.2, hk.1.2⟩⟩⟩⟩⟩⟩)⟩, ⟨by (with_reducible repeat (first | refine blk_drewN ?_ _ | refine blk_drew ?_ | refine blk_alloc ?_ _)); refine blk_far ?_ NB563_589.out _; (with_reducible repeat (first | refine blk_drewN ?_ _ | refine blk_drew ?_ | refine blk_alloc ?_ _)); refine blk_far ?_ NB563_589.out _; (with_reducible repeat (first | refine blk_drewN ?_ _ | refine blk_drew ?_ | refine blk_alloc ?_ _)); exact BK563.out⟩, ⟨by (with_reducible repeat (first | refine blk_drewN ?_ _ | refine blk_drew ?_ | refine blk_alloc ?_ _)); refine blk_far ?_ NB564_589.out _; (with_reducible repeat (first | refine blk_drewN ?_ _ | refine blk_drew ?_ | refine blk_alloc ?_ _)); refine blk_far ?_ NB564_589.out _; (with_reducible repeat (first | refine blk_drewN ?_ _ | refine blk_drew ?_ | refine blk_alloc ?_ _)); exact BK564.out⟩, ⟨by (with_reducible repeat (first | refine blk_drewN ?_ _ | refine blk_drew ?_ | refine blk_alloc ?_ _)); refine blk_far ?_ NB573_589.out _; (with_reducible repeat (first | refine blk_drewN ?_ _ | refine blk_drew ?_ | refine blk_alloc ?_ _)); refine blk_far ?_ NB573_589.out _; (with_reducible repeat (first | refine blk_drewN ?_ _ | refine blk_drew ?_ | refine blk_alloc ?_ _)); exact BK573.out⟩, ⟨by (with_reducible repeat (first | refine blk_drewN ?_ _ | refine blk_drew ?_ | refine blk_alloc ?_ _)); refine blk_far ?_ NB579_589.out _; (with_reducible repeat (first | refine blk_drewN ?_ _ | refine blk_drew ?_ | refine blk_alloc ?_ _)); refine blk_far ?_ NB579_589.out _; (with_reducible repeat (first | refine blk_drewN ?_ _ | refine blk_drew ?_ | refine blk_alloc ?_ _)); exact BK579.out⟩, ⟨by (with_reducible repeat (first | refine blk_drewN ?_ _ | refine blk_drew ?_ | refine blk_alloc ?_ _)); refine blk_put (cs := #[.int .i64 t585, .slice none 0 0]) ?_ 1 _ rfl; (with_reducible repeat (first | refine blk_drewN ?_ _ | refine blk_drew ?_ | refine blk_alloc ?_ _)); refine blk_put (cs := #[.int .i64 0, .slice none 0 0]) ?_ 0 _ rfl; (with_reducible repeat (first | refine blk_drewN ?_ _ | refine blk_drew ?_ | refine blk_alloc ?_ _)); exact BK589.out⟩, ⟨HB_⟩⟩
        rw [if_pos c63] at H
        have c63b0 : decide (0 < (t586.length : Int)) = true := decide_eq_true c63
        have c63b1 : decide (0 < t586.length) = true := decide_eq_true (by omega)
        clear c63
        (first | rw [c63b0] | (simp only [i64_w, i32_w]; rw [c63b0]) | skip)
        replace H := bd_ H
        obtain ⟨t590, A64, H⟩ := H
        (try dsimp only at H)
        have H' := Aside0.mk H
        clear H
        have hnb65 := NB589_563.out
        have hnc65 := NB563_589.out
        have hnb66 := NB589_564.out
        have hnc66 := NB564_589.out
        have hnb67 := NB589_573.out
        have hnc67 := NB573_589.out
        have hnb68 := NB589_579.out
        have hnc68 := NB579_589.out
        obtain ⟨hcz69_0, hcz69_1, hfz69_0, hfz69_1⟩ := cz2_ BK589
        have hnb70 := NB563_564.out
        have hnc70 := NB564_563.out
        have hnb71 := NB563_573.out
        have hnc71 := NB573_563.out
        have hnb72 := NB563_579.out
        have hnc72 := NB579_563.out
        obtain ⟨hcz73_0, hcz73_1, hfz73_0, hfz73_1⟩ := cz2_ BK563
        go_wp2_with (first | (go_at_call 17; (with_reducible refine (warrantorref08_Same.calls kj13 t585 _ _ t586 a0_0 _ _ l0_1 t590 _ ?side1 ?side2 ?side3 ?side4 A64.out).mono ?_); (case side1 => refine (Kd.V_reads' (e := 3) (base := w.heap.size) (ok := fun k_ => ((some k_ ≠ (.slice Ao28 t569.length co28 : Value).ownBlock ∧ (some k_ ≠ (.slice Ao37 t575.length co37 : Value).ownBlock ∧ (k_ ≠ gb563 ∧ (k_ ≠ gb564 ∧ (k_ ≠ gb573 ∧ k_ ≠ gb579))))) ∧ k_ ≠ gb589)) (n := t586.length) (c := co62) ?_).2.2; exact (by (with_reducible repeat (first | apply Kd.V_alloc | apply Kd.V_drewN | apply Kd.V_drew)); exact (Kd.V_mono (Kd.V_far (p := ⟨gb589, 1, none⟩) (Kd.V_far (p := ⟨gb589, 0, none⟩) (Kd.V_mono HO588.out (fun k_ hk => (⟨hk, hk.2⟩ : _ ∧ k_ ≠ gb589))) (fun _ hk => hk.2) (.int .i64 t585)) (fun _ hk => hk.2) (.slice Ao62 t586.length co62)) (fun _ h_ => h_.1)))); (case side2 => exact (Kd.V_reads' HO588.out).2.1); (case side3 => exact Kd.C_below HR0_1.out HB_); (case side4 => exact HC0_1.out); rintro e w74 ⟨rfl, hb⟩; have n_ := a_ (Aside0.mk (Kd.R_below (rd_ (rf2_ HO_574001 BK589 (.int .i64 t585) (.slice Ao62 t586.length co62))) hb)) (a_ (Aside0.mk (Kd.R_below (rd_ (rf2_ HO_580001 BK589 (.int .i64 t585) (.slice Ao62 t586.length co62))) hb)) (a_ (Aside0.mk (Kd.V_below (by (with_reducible repeat (first | apply Kd.V_alloc | apply Kd.V_drewN | apply Kd.V_drew)); exact (Kd.V_mono (Kd.V_far (p := ⟨gb589, 1, none⟩) (Kd.V_far (p := ⟨gb589, 0, none⟩) (Kd.V_mono HO588.out (fun k_ hk => (⟨hk, hk.2⟩ : _ ∧ k_ ≠ gb589))) (fun _ hk => hk.2) (.int .i64 t585)) (fun _ hk => hk.2) (.slice Ao62 t586.length co62)) (fun _ h_ => h_.1))) hb)) (a_ (bc_ #[.int .i64 a0_0, .slice A0_1 l0_1.length c0_1] 24 BK563 hb) (a_ (bc_ #[.int .i64 a1_0, .int .i64 a1_1, .int .i64 a1_2, .int .i64 a1_3, .int .i64 a1_4] 26 BK564 hb) (a_ (bc_ #[.int .i64 t568, .slice Ao28 t569.length co28] 24 BK573 hb) (a_ (bc_ #[.int .i64 t574, .slice Ao37 t575.length co37] 24 BK579 hb) (a_ (bc_ #[.int .i64 t585, .slice Ao62 t586.length co62] 24 BK589 hb) (bs_ HB hb)))))))); clear HO_574001 HO_580001 HO588 BK563 BK564 BK573 BK579 BK589 HB; obtain ⟨HO_574001, HO_580001, HO588, BK563, BK564, BK573, BK579, BK589, HB⟩ := n_; (try clear hb); (try clear hb2); (try clear hk); (try clear hi)))
        go_meet
        case rel => exact ⟨_, (t590), (by first | rfl | (simp; done) | (simp [*]; done)), H', ⟨by have := HJ13.out; first | omega | exact Nat.le_refl _⟩, ⟨by (with_reducible repeat (first | apply Kd.R_alloc | apply Kd.R_drewN | apply Kd.R_drew)); exact HO_574001.out⟩, ⟨by (with_reducible repeat (first | apply Kd.R_alloc | apply Kd.R_drewN | apply Kd.R_drew)); exact HO_580001.out⟩, ⟨by (with_reducible repeat (first | apply Kd.V_alloc | apply Kd.V_drewN | apply Kd.V_drew)); exact Kd.V_mono HO588.out (fun _ hk => ⟨hk.1.1, ⟨hk.1.2.1, ⟨hk.1.2.2.1, ⟨hk.1.2.2.2.1, ⟨hk.1.2.2.2.2.1, ⟨hk.1.2.2.2.2.2, hk.2⟩⟩⟩⟩⟩⟩)⟩, ⟨by (with_reducible repeat (first | refine blk_drewN ?_ _ | refine blk_drew ?_ | refine blk_alloc ?_ _)); exact BK563.out⟩, ⟨by (with_reducible repeat (first | refine blk_drewN ?_ _ | refine blk_drew ?_ | refine blk_alloc ?_ _)); exact BK564.out⟩, ⟨by (with_reducible repeat (first | refine blk_drewN ?_ _ | refine blk_drew ?_ | refine blk_alloc ?_ _)); exact BK573.out⟩, ⟨by (with_reducible repeat (first | refine blk_drewN ?_ _ | refine blk_drew ?_ | refine blk_alloc ?_ _)); exact BK579.out⟩, ⟨by (with_reducible repeat (first | refine blk_drewN ?_ _ | refine blk_drew ?_ | refine blk_alloc ?_ _)); exact BK589.out⟩, ⟨HB_⟩⟩
      case rest =>
        clear HC47
        try clear c1
        try clear c2
        try clear p2
        try clear c3
        try clear c4
        try clear c5
        try clear c6
        try clear c7
        try clear c8
        try clear c12
        try clear c13
        try clear c14
        try clear c15
        try clear c16
        try clear c17
        try clear c20
        try clear c25
        try clear c26
        try clear c33
        try clear c34
        try clear c35
        try clear c39
        try clear c40
        try clear c40b0
        try clear c40b1
        try clear c44
        try clear c45
        try clear c45b0
        try clear c45b1
        try clear c48
        try clear c49
        try clear c50
        try clear c52
        try clear c53
        try clear c57
        try clear c58
        try clear c59
        try clear c60
        try clear c63
        try clear c63b0
        try clear c63b1
        try clear c65
        try clear c66
        try clear c67
        try clear c68
        try clear c70
        try clear c71
        try clear c72
        try clear c75
        try clear c76
        try clear c77
        try clear c78
        try clear hcz18_0
        try clear hcz18_1
        try clear hcz19_0
        try clear hcz19_1
        try clear hcz19_2
        try clear hcz19_3
        try clear hcz19_4
        try clear hcz21_0
        try clear hcz21_1
        try clear hcz22_0
        try clear hcz22_1
        try clear hcz22_2
        try clear hcz22_3
        try clear hcz22_4
        try clear hcz27_0
        try clear hcz27_1
        try clear hcz29_0
        try clear hcz29_1
        try clear hcz30_0
        try clear hcz30_1
        try clear hcz30_2
        try clear hcz30_3
        try clear hcz30_4
        try clear hcz36_0
        try clear hcz36_1
        try clear hcz51_0
        try clear hcz51_1
        try clear hcz54_0
        try clear hcz54_1
        try clear hcz54_2
        try clear hcz54_3
        try clear hcz54_4
        try clear hcz61_0
        try clear hcz61_1
        try clear hcz69_0
        try clear hcz69_1
        try clear hcz73_0
        try clear hcz73_1
        try clear hcz79_0
        try clear hcz79_1
        try clear hcz9_0
        try clear hcz9_1
        try clear hfz18_0
        try clear hfz18_1
        try clear hfz19_0
        try clear hfz19_1
        try clear hfz19_2
        try clear hfz19_3
        try clear hfz19_4
        try clear hfz21_0
        try clear hfz21_1
        try clear hfz22_0
        try clear hfz22_1
        try clear hfz22_2
        try clear hfz22_3
        try clear hfz22_4
        try clear hfz27_0
        try clear hfz27_1
        try clear hfz29_0
        try clear hfz29_1
        try clear hfz30_0
        try clear hfz30_1
        try clear hfz30_2
        try clear hfz30_3
        try clear hfz30_4
        try clear hfz36_0
        try clear hfz36_1
        try clear hfz51_0
        try clear hfz51_1
        try clear hfz54_0
        try clear hfz54_1
        try clear hfz54_2
        try clear hfz54_3
        try clear hfz54_4
        try clear hfz61_0
        try clear hfz61_1
        try clear hfz69_0
        try clear hfz69_1
        try clear hfz73_0
        try clear hfz73_1
        try clear hfz79_0
        try clear hfz79_1
        try clear hfz9_0
        try clear hfz9_1
        try clear p2
        obtain ⟨kq, x11_46, rfl, HA, HJ46, HO_574001, HO_580001, HO_590001, BK563, BK564, BK573, BK579, BK589, HB⟩ := hcut
        cases kq with
        | zero => exact absurd HA.out (by simp [warrantorlaw14_PostTells.j1])
        | succ kj46 =>
          have H := HA.out
          clear HA
          simp only [warrantorlaw14_PostTells.j1] at H
          replace H := bd_ H
          obtain ⟨⟨t591, t592⟩, A80, H⟩ := H
          (try dsimp only at H)
          replace H := bd_ H
          obtain ⟨t595, A81, H⟩ := H
          (try dsimp only at H)
          replace H := yes_ H
          obtain ⟨c82, H⟩ := H
          subst c82
          replace H := bd_ H
          obtain ⟨t596, A83, H⟩ := H
          (try dsimp only at H)
          replace H := yes_ H
          obtain ⟨c84, H⟩ := H
          subst c84
          replace H := bd_ H
          obtain ⟨t597, A85, H⟩ := H
          (try dsimp only at H)
          by_cases c86 : (t597 == (decide ((t586.length : Int) > 0))) = true
          rotate_left
          · rw [if_neg c86] at H
            have c86b0 : (t597 == (decide ((t586.length : Int) > 0))) = false := by simpa using c86
            (try (have c86b1 : decide (t597 = (decide ((t586.length : Int) > 0))) = false := by simpa using c86))
            (try (have c86b2 : (t597 == (decide ((t586.length : Int) > 0))) = false := by simpa using c86))
            (try (have c86b3 : ¬ (t597 = (decide ((t586.length : Int) > 0))) := by simpa using c86))
            clear c86
            exact absurd H (by simp)
          rw [if_pos c86] at H
          have c86b0 : (t597 == (decide ((t586.length : Int) > 0))) = true := c86
          (try (have c86b1 : decide (t597 = (decide ((t586.length : Int) > 0))) = true := by simpa using c86))
          (try (have c86b2 : (t597 == (decide ((t586.length : Int) > 0))) = true := by simpa using c86))
          have c_s : t597 = decide (0 < t586.length) := by simpa using c86
          subst c_s
          clear c86
          replace H := bd_ H
          obtain ⟨t598, A87, H⟩ := H
          (try dsimp only at H)
          obtain rfl := Option.some.inj H
          try go_wp2
          have n_ := a_ (Aside0.mk (Kd.R_drew HO_574001.out)) (a_ (Aside0.mk (Kd.R_drew HO_580001.out)) (a_ (Aside0.mk (Kd.V_drew HO_590001.out)) (a_ (Aside0.mk (blk_drew BK563.out)) (a_ (Aside0.mk (blk_drew BK564.out)) (a_ (Aside0.mk (blk_drew BK573.out)) (a_ (Aside0.mk (blk_drew BK579.out)) (a_ (Aside0.mk (blk_drew BK589.out)) (Aside0.mk (below_drew1 HB.out)))))))))
          clear HO_574001 HO_580001 HO_590001 BK563 BK564 BK573 BK579 BK589 HB
          obtain ⟨HO_574001, HO_580001, HO_590001, BK563, BK564, BK573, BK579, BK589, HB⟩ := n_
          refine start_ (n := 28) (S := fun w' => w'.cell? ⟨gb573, 0, none⟩ = some (.int .i64 t568) ∧ w'.cell? ⟨gb573, 1, none⟩ = some (.slice Ao28 t569.length co28) ∧ w'.cell? ⟨gb563, 0, none⟩ = some (.int .i64 a0_0) ∧ w'.cell? ⟨gb563, 1, none⟩ = some (.slice A0_1 l0_1.length c0_1) ∧ w'.cell? ⟨gb564, 0, none⟩ = some (.int .i64 a1_0) ∧ w'.cell? ⟨gb564, 1, none⟩ = some (.int .i64 a1_1) ∧ w'.cell? ⟨gb564, 2, none⟩ = some (.int .i64 a1_2) ∧ w'.cell? ⟨gb564, 3, none⟩ = some (.int .i64 a1_3) ∧ w'.cell? ⟨gb564, 4, none⟩ = some (.int .i64 a1_4) ∧ w'.cell? ⟨gb579, 0, none⟩ = some (.int .i64 t574) ∧ w'.cell? ⟨gb579, 1, none⟩ = some (.slice Ao37 t575.length co37) ∧ w'.cell? ⟨gb589, 0, none⟩ = some (.int .i64 t585) ∧ w'.cell? ⟨gb589, 1, none⟩ = some (.slice Ao62 t586.length co62)) (ds := []) #[false, false, false, false, false, false, false, false, false, false, false, false, false, false, false, false, false, false, false, false, false, false, false, false, false, false, false, false] (by kernel_rfl) rfl rfl ⟨(blk_cell BK573.out 0).trans rfl, (blk_cell BK573.out 1).trans rfl, (blk_cell BK563.out 0).trans rfl, (blk_cell BK563.out 1).trans rfl, (blk_cell BK564.out 0).trans rfl, (blk_cell BK564.out 1).trans rfl, (blk_cell BK564.out 2).trans rfl, (blk_cell BK564.out 3).trans rfl, (blk_cell BK564.out 4).trans rfl, (blk_cell BK579.out 0).trans rfl, (blk_cell BK579.out 1).trans rfl, (blk_cell BK589.out 0).trans rfl, (blk_cell BK589.out 1).trans rfl⟩ (fun hHeld => ?_); refine with_tabW warrantorlaw14_PostTells.tab12 warrantorlaw14_PostTells.bits12 (fun HT_ HW_ => ?_)
          generalize wc.drew = w88 at HO_574001 HO_580001 HO_590001 BK563 BK564 BK573 BK579 BK589 HB hHeld ⊢
          refine take_ (i := 0) (N := some 77) (v := ?_) (a' := ?_) #[true, false, false, false, false, false, false, false, false, false, false, false, false, false, false, false, false, false, false, false, false, false, false, false, false, false, false, false] rfl rfl (take_ofW HT_.out HW_.out (by kernel_rfl)) (fun _ _ _ h => h) (Or.inl ⟨by rfl, ?_⟩) hHeld ?_ ?_
          rotate_left
          · rintro w' ⟨s0, s1, s2, s3, s4, s5, s6, s7, s8, s9, s10, s11, s12⟩
            go_simp
            with_reducible rfl
          rotate_left
          · exact AP_
          refine take_ (i := 1) (N := some 78) (v := ?_) (a' := ?_) #[true, true, false, false, false, false, false, false, false, false, false, false, false, false, false, false, false, false, false, false, false, false, false, false, false, false, false, false] rfl rfl (take_ofW HT_.out HW_.out (by kernel_rfl)) (fun _ _ _ h => h) (Or.inl ⟨by rfl, ?_⟩) hHeld ?_ ?_
          rotate_left
          · rintro w' ⟨s0, s1, s2, s3, s4, s5, s6, s7, s8, s9, s10, s11, s12⟩
            go_simp
            with_reducible rfl
          rotate_left
          · exact AP_
          refine take_ (i := 2) (N := some 79) (v := ?_) (a' := ?_) #[true, true, true, false, false, false, false, false, false, false, false, false, false, false, false, false, false, false, false, false, false, false, false, false, false, false, false, false] rfl rfl (take_ofW HT_.out HW_.out (by kernel_rfl)) (fun _ _ _ h => h) (Or.inl ⟨by rfl, ?_⟩) hHeld ?_ ?_
          rotate_left
          · rintro w' ⟨s0, s1, s2, s3, s4, s5, s6, s7, s8, s9, s10, s11, s12⟩
            go_simp
            with_reducible rfl
          rotate_left
          · exact AP_
          refine one_ (i := 3) (N := some 80) #[true, true, true, true, false, false, false, false, false, false, false, false, false, false, false, false, false, false, false, false, false, false, false, false, false, false, false, false] rfl rfl (one_of HT_.out (by kernel_rfl)) (by decide) (fun K hK => ?_)
          refine goes_ Try.func21 (by kernel_rfl) rfl #[.agg #[.int .i64 a0_0, .slice A0_1 l0_1.length c0_1], .agg #[.int .i64 a1_0, .int .i64 a1_1, .int .i64 a1_2, .int .i64 a1_3, .int .i64 a1_4]] (by rfl) rfl rfl MP_ ?_
          with_reducible refine (warrantorref14_Post.calls kj46 a0_0 (fun k_ => k_ < w.heap.size) _ _ l0_1 a1_0 a1_1 a1_2 a1_3 a1_4 t591 t592 _ ?side1 A80.out).mono ?_
          (case side1 => exact Kd.V_mk HC0_1.out (Kd.F_below (Kd.C_F (Kd.heap_int .i64) HR0_1.out) HB_))
          rintro e w89 ⟨v593, rfl, ho0, hb⟩
          refine ⟨_, rfl, ?_⟩
          have n_ := a_ (rb_ HO_574001 hb) (a_ (rb_ HO_580001 hb) (a_ (Aside0.mk (Kd.V_below (by (with_reducible repeat (first | apply Kd.V_alloc | apply Kd.V_drewN | apply Kd.V_drew)); exact HO_590001.out) hb)) (a_ (Aside0.mk (Kd.V_lower (Kd.V_mono (ok' := fun k_ => some k_ ≠ (.slice Ao28 t569.length co28 : Value).ownBlock ∧ some k_ ≠ (.slice Ao37 t575.length co37 : Value).ownBlock ∧ k_ ≠ gb563 ∧ k_ ≠ gb564 ∧ k_ ≠ gb573 ∧ k_ ≠ gb579 ∧ k_ ≠ gb589) ho0 (fun k_ hk_ => ⟨Or.elim hk_ (fun hs_ => fun e_ => Nat.not_le.2 hs_ (Kd.R_base HO_574001.out k_ e_.symm)) (fun hn_ => (Kd.fresh' (Kd.R_lt (rd_ HO_574001.out)) k_ hn_)), Or.elim hk_ (fun hs_ => fun e_ => Nat.not_le.2 hs_ (Kd.R_base HO_580001.out k_ e_.symm)) (fun hn_ => (Kd.fresh' (Kd.R_lt (rd_ HO_580001.out)) k_ hn_)), Or.elim hk_ (fun hs_ => fun e_ => Nat.not_le.2 hs_ (by rw [e_]; exact GW563.out)) (fun hn_ => (Kd.freshB (g := gb563) (o := .cells #[.int .i64 a0_0, .slice A0_1 l0_1.length c0_1] 24 (0, 0)) (bk_ BK563.out) k_ hn_)), Or.elim hk_ (fun hs_ => fun e_ => Nat.not_le.2 hs_ (by rw [e_]; exact GW564.out)) (fun hn_ => (Kd.freshB (g := gb564) (o := .cells #[.int .i64 a1_0, .int .i64 a1_1, .int .i64 a1_2, .int .i64 a1_3, .int .i64 a1_4] 26 (0, 0)) (bk_ BK564.out) k_ hn_)), Or.elim hk_ (fun hs_ => fun e_ => Nat.not_le.2 hs_ (by rw [e_]; exact GW573.out)) (fun hn_ => (Kd.freshB (g := gb573) (o := .cells #[.int .i64 t568, .slice Ao28 t569.length co28] 24 (0, 0)) (bk_ BK573.out) k_ hn_)), Or.elim hk_ (fun hs_ => fun e_ => Nat.not_le.2 hs_ (by rw [e_]; exact GW579.out)) (fun hn_ => (Kd.freshB (g := gb579) (o := .cells #[.int .i64 t574, .slice Ao37 t575.length co37] 24 (0, 0)) (bk_ BK579.out) k_ hn_)), Or.elim hk_ (fun hs_ => fun e_ => Nat.not_le.2 hs_ (by rw [e_]; exact GW589.out)) (fun hn_ => (Kd.freshB (g := gb589) (o := .cells #[.int .i64 t585, .slice Ao62 t586.length co62] 24 (0, 0)) (bk_ BK589.out) k_ hn_))⟩)) (below_size HB_))) (a_ (bb_ BK563 hb) (a_ (bb_ BK564 hb) (a_ (bb_ BK573 hb) (a_ (bb_ BK579 hb) (a_ (bb_ BK589 hb) (bs_ HB hb)))))))))
          clear HO_574001 HO_580001 HO_590001 BK563 BK564 BK573 BK579 BK589 HB
          obtain ⟨HO_574001, HO_580001, HO_590001, HO594, BK563, BK564, BK573, BK579, BK589, HB⟩ := n_
          (try clear hb)
          (try clear hb2)
          (try clear hk)
          (try clear hi)
          (try clear ho0)
          obtain ⟨Ao90, co90, eo90⟩ := Kd.V_slice HO594.out
          (first | subst eo90 | (injection eo90 with f1_ f2_ f3_; have f4_ := f1_.symm; have f5_ := f3_.symm; clear f1_ f2_ f3_; subst f4_; subst f5_))
          refine hK.out _ _ ⟨(blk_cell BK573.out 0).trans rfl, (blk_cell BK573.out 1).trans rfl, (blk_cell BK563.out 0).trans rfl, (blk_cell BK563.out 1).trans rfl, (blk_cell BK564.out 0).trans rfl, (blk_cell BK564.out 1).trans rfl, (blk_cell BK564.out 2).trans rfl, (blk_cell BK564.out 3).trans rfl, (blk_cell BK564.out 4).trans rfl, (blk_cell BK579.out 0).trans rfl, (blk_cell BK579.out 1).trans rfl, (blk_cell BK589.out 0).trans rfl, (blk_cell BK589.out 1).trans rfl⟩ (fun hHeld => ?_)
          clear hK K
          refine norm_ (a' := ?_) ?_ ?_
          rotate_left
          · show Act.put _ (some 80) _ = _
            simp only [Act.put, List.setIfInBounds_toArray, List.set_cons_zero, List.set_cons_succ, i64_w, i32_w]
            rfl
          refine one_ (i := 4) (N := some 81) #[true, true, true, true, true, false, false, false, false, false, false, false, false, false, false, false, false, false, false, false, false, false, false, false, false, false, false, false] rfl rfl (one_of HT_.out (by kernel_rfl)) (by decide) (fun K hK => ?_)
          refine goes_ Try.func17 (by kernel_rfl) rfl #[.agg #[.int .i64 t568, .slice Ao28 t569.length co28], .agg #[.int .i64 t591, .slice Ao90 t592.length co90]] (by rfl) rfl rfl MP_ ?_
          with_reducible refine (warrantorref08_Same.calls kj46 t568 _ _ t569 t591 _ _ t592 true _ ?side1 ?side2 ?side3 ?side4 A81.out).mono ?_
          (case side1 => repeat (first | exact (Kd.R_reads' HO_574001.out).2.2 | (with_reducible refine Kd.C_alloc ?_ _) | (with_reducible refine Kd.C_drewN ?_ _) | (with_reducible refine Kd.C_drew ?_)))
          (case side2 => exact (Kd.R_reads' HO_574001.out).2.1)
          (case side3 => repeat (first | exact (Kd.V_reads' HO594.out).2.2 | (with_reducible refine Kd.C_alloc ?_ _) | (with_reducible refine Kd.C_drewN ?_ _) | (with_reducible refine Kd.C_drew ?_)))
          (case side4 => exact (Kd.V_reads' HO594.out).2.1)
          rintro e w91 ⟨rfl, hb⟩
          refine ⟨_, rfl, ?_⟩
          have n_ := a_ (rb_ HO_574001 hb) (a_ (rb_ HO_580001 hb) (a_ (Aside0.mk (Kd.V_below (by (with_reducible repeat (first | apply Kd.V_alloc | apply Kd.V_drewN | apply Kd.V_drew)); exact HO_590001.out) hb)) (a_ (Aside0.mk (Kd.V_below (by (with_reducible repeat (first | apply Kd.V_alloc | apply Kd.V_drewN | apply Kd.V_drew)); exact HO594.out) hb)) (a_ (bb_ BK563 hb) (a_ (bb_ BK564 hb) (a_ (bb_ BK573 hb) (a_ (bb_ BK579 hb) (a_ (bb_ BK589 hb) (bs_ HB hb)))))))))
          clear HO_574001 HO_580001 HO_590001 HO594 BK563 BK564 BK573 BK579 BK589 HB
          obtain ⟨HO_574001, HO_580001, HO_590001, HO594, BK563, BK564, BK573, BK579, BK589, HB⟩ := n_
          (try clear hb)
          (try clear hb2)
          (try clear hk)
          (try clear hi)
          refine hK.out _ _ ⟨(blk_cell BK573.out 0).trans rfl, (blk_cell BK573.out 1).trans rfl, (blk_cell BK563.out 0).trans rfl, (blk_cell BK563.out 1).trans rfl, (blk_cell BK564.out 0).trans rfl, (blk_cell BK564.out 1).trans rfl, (blk_cell BK564.out 2).trans rfl, (blk_cell BK564.out 3).trans rfl, (blk_cell BK564.out 4).trans rfl, (blk_cell BK579.out 0).trans rfl, (blk_cell BK579.out 1).trans rfl, (blk_cell BK589.out 0).trans rfl, (blk_cell BK589.out 1).trans rfl⟩ (fun hHeld => ?_)
          clear hK K
          refine norm_ (a' := ?_) ?_ ?_
          rotate_left
          · show Act.put _ (some 81) _ = _
            simp only [Act.put, List.setIfInBounds_toArray, List.set_cons_zero, List.set_cons_succ, i64_w, i32_w]
            rfl
          refine pure_ (i := 5) (N := some 82) (v := ?_) (a' := ?_) #[true, true, true, true, true, true, false, false, false, false, false, false, false, false, false, false, false, false, false, false, false, false, false, false, false, false, false, false] rfl rfl (any_of HT_.out (by kernel_rfl)) (fun _ _ _ h => h) (Or.inl ⟨by rfl, ?_⟩) ?_ ?_
          rotate_left
          · intro w'
            go_simp
            with_reducible rfl
          rotate_left
          · exact AP_
          refine take_ (i := 6) (N := some 83) (v := ?_) (a' := ?_) #[true, true, true, true, true, true, true, false, false, false, false, false, false, false, false, false, false, false, false, false, false, false, false, false, false, false, false, false] rfl rfl (take_ofW HT_.out HW_.out (by kernel_rfl)) (fun _ _ _ h => h) (Or.inl ⟨by rfl, ?_⟩) hHeld ?_ ?_
          rotate_left
          · rintro w' ⟨s0, s1, s2, s3, s4, s5, s6, s7, s8, s9, s10, s11, s12⟩
            go_simp
            with_reducible rfl
          rotate_left
          · exact AP_
          refine take_ (i := 7) (N := some 84) (v := ?_) (a' := ?_) #[true, true, true, true, true, true, true, true, false, false, false, false, false, false, false, false, false, false, false, false, false, false, false, false, false, false, false, false] rfl rfl (take_ofW HT_.out HW_.out (by kernel_rfl)) (fun _ _ _ h => h) (Or.inl ⟨by rfl, ?_⟩) hHeld ?_ ?_
          rotate_left
          · rintro w' ⟨s0, s1, s2, s3, s4, s5, s6, s7, s8, s9, s10, s11, s12⟩
            go_simp
            with_reducible rfl
          rotate_left
          · exact AP_
          refine one_ (i := 8) (N := some 85) #[true, true, true, true, true, true, true, true, true, false, false, false, false, false, false, false, false, false, false, false, false, false, false, false, false, false, false, false] rfl rfl (one_of HT_.out (by kernel_rfl)) (by decide) (fun K hK => ?_)
          refine goes_ Try.func17 (by kernel_rfl) rfl #[.agg #[.int .i64 t574, .slice Ao37 t575.length co37], .agg #[.int .i64 t585, .slice Ao62 t586.length co62]] (by rfl) rfl rfl MP_ ?_
          with_reducible refine (warrantorref08_Same.calls kj46 t574 _ _ t575 t585 _ _ t586 true _ ?side1 ?side2 ?side3 ?side4 A83.out).mono ?_
          (case side1 => repeat (first | exact (Kd.R_reads' HO_580001.out).2.2 | (with_reducible refine Kd.C_alloc ?_ _) | (with_reducible refine Kd.C_drewN ?_ _) | (with_reducible refine Kd.C_drew ?_)))
          (case side2 => exact (Kd.R_reads' HO_580001.out).2.1)
          (case side3 => repeat (first | exact (Kd.V_reads' HO_590001.out).2.2 | (with_reducible refine Kd.C_alloc ?_ _) | (with_reducible refine Kd.C_drewN ?_ _) | (with_reducible refine Kd.C_drew ?_)))
          (case side4 => exact (Kd.V_reads' HO_590001.out).2.1)
          rintro e w92 ⟨rfl, hb⟩
          refine ⟨_, rfl, ?_⟩
          have n_ := a_ (rb_ HO_574001 hb) (a_ (rb_ HO_580001 hb) (a_ (Aside0.mk (Kd.V_below (by (with_reducible repeat (first | apply Kd.V_alloc | apply Kd.V_drewN | apply Kd.V_drew)); exact HO_590001.out) hb)) (a_ (Aside0.mk (Kd.V_below (by (with_reducible repeat (first | apply Kd.V_alloc | apply Kd.V_drewN | apply Kd.V_drew)); exact HO594.out) hb)) (a_ (bb_ BK563 hb) (a_ (bb_ BK564 hb) (a_ (bb_ BK573 hb) (a_ (bb_ BK579 hb) (a_ (bb_ BK589 hb) (bs_ HB hb)))))))))
          clear HO_574001 HO_580001 HO_590001 HO594 BK563 BK564 BK573 BK579 BK589 HB
          obtain ⟨HO_574001, HO_580001, HO_590001, HO594, BK563, BK564, BK573, BK579, BK589, HB⟩ := n_
          (try clear hb)
          (try clear hb2)
          (try clear hk)
          (try clear hi)
          refine hK.out _ _ ⟨(blk_cell BK573.out 0).trans rfl, (blk_cell BK573.out 1).trans rfl, (blk_cell BK563.out 0).trans rfl, (blk_cell BK563.out 1).trans rfl, (blk_cell BK564.out 0).trans rfl, (blk_cell BK564.out 1).trans rfl, (blk_cell BK564.out 2).trans rfl, (blk_cell BK564.out 3).trans rfl, (blk_cell BK564.out 4).trans rfl, (blk_cell BK579.out 0).trans rfl, (blk_cell BK579.out 1).trans rfl, (blk_cell BK589.out 0).trans rfl, (blk_cell BK589.out 1).trans rfl⟩ (fun hHeld => ?_)
          clear hK K
          refine norm_ (a' := ?_) ?_ ?_
          rotate_left
          · show Act.put _ (some 85) _ = _
            simp only [Act.put, List.setIfInBounds_toArray, List.set_cons_zero, List.set_cons_succ, i64_w, i32_w]
            rfl
          refine pure_ (i := 9) (N := some 86) (v := ?_) (a' := ?_) #[true, true, true, true, true, true, true, true, true, true, false, false, false, false, false, false, false, false, false, false, false, false, false, false, false, false, false, false] rfl rfl (any_of HT_.out (by kernel_rfl)) (fun _ _ _ h => h) (Or.inl ⟨by rfl, ?_⟩) ?_ ?_
          rotate_left
          · intro w'
            go_simp
            with_reducible rfl
          rotate_left
          · exact AP_
          refine pure_ (i := 10) (N := some 87) (v := ?_) (a' := ?_) #[true, true, true, true, true, true, true, true, true, true, true, false, false, false, false, false, false, false, false, false, false, false, false, false, false, false, false, false] rfl rfl (any_of HT_.out (by kernel_rfl)) (fun _ _ _ h => h) (Or.inl ⟨by rfl, ?_⟩) ?_ ?_
          rotate_left
          · intro w'
            go_simp
            with_reducible rfl
          rotate_left
          · exact AP_
          refine pure_ (i := 14) (N := some 91) (v := ?_) (a' := ?_) #[true, true, true, true, true, true, true, true, true, true, true, false, false, false, true, false, false, false, false, false, false, false, false, false, false, false, false, false] rfl rfl (any_of HT_.out (by kernel_rfl)) (fun _ _ _ h => h) (Or.inl ⟨by rfl, ?_⟩) ?_ ?_
          rotate_left
          · intro w'
            go_simp
            with_reducible rfl
          rotate_left
          · exact AP_
          refine take_ (i := 11) (N := some 88) (v := ?_) (a' := ?_) #[true, true, true, true, true, true, true, true, true, true, true, true, false, false, true, false, false, false, false, false, false, false, false, false, false, false, false, false] rfl rfl (take_ofW HT_.out HW_.out (by kernel_rfl)) (fun _ _ _ h => h) (Or.inl ⟨by rfl, ?_⟩) hHeld ?_ ?_
          rotate_left
          · rintro w' ⟨s0, s1, s2, s3, s4, s5, s6, s7, s8, s9, s10, s11, s12⟩
            go_simp
            with_reducible rfl
          rotate_left
          · exact AP_
          refine take_ (i := 12) (N := some 89) (v := ?_) (a' := ?_) #[true, true, true, true, true, true, true, true, true, true, true, true, true, false, true, false, false, false, false, false, false, false, false, false, false, false, false, false] rfl rfl (take_ofW HT_.out HW_.out (by kernel_rfl)) (fun _ _ _ h => h) (Or.inl ⟨by rfl, ?_⟩) hHeld ?_ ?_
          rotate_left
          · rintro w' ⟨s0, s1, s2, s3, s4, s5, s6, s7, s8, s9, s10, s11, s12⟩
            go_simp
            with_reducible rfl
          rotate_left
          · exact AP_
          refine take_ (i := 15) (N := some 92) (v := ?_) (a' := ?_) #[true, true, true, true, true, true, true, true, true, true, true, true, true, false, true, true, false, false, false, false, false, false, false, false, false, false, false, false] rfl rfl (take_ofW HT_.out HW_.out (by kernel_rfl)) (fun _ _ _ h => h) (Or.inl ⟨by rfl, ?_⟩) hHeld ?_ ?_
          rotate_left
          · rintro w' ⟨s0, s1, s2, s3, s4, s5, s6, s7, s8, s9, s10, s11, s12⟩
            go_simp
            with_reducible rfl
          rotate_left
          · exact AP_
          refine pure_ (i := 16) (N := some 93) (v := ?_) (a' := ?_) #[true, true, true, true, true, true, true, true, true, true, true, true, true, false, true, true, true, false, false, false, false, false, false, false, false, false, false, false] rfl rfl (any_of HT_.out (by kernel_rfl)) (fun _ _ _ h => h) (Or.inl ⟨by rfl, ?_⟩) ?_ ?_
          rotate_left
          · intro w'
            go_simp
            with_reducible rfl
          rotate_left
          · exact AP_
          refine pure_ (i := 17) (N := some 94) (v := ?_) (a' := ?_) #[true, true, true, true, true, true, true, true, true, true, true, true, true, false, true, true, true, true, false, false, false, false, false, false, false, false, false, false] rfl rfl (any_of HT_.out (by kernel_rfl)) (fun _ _ _ h => h) (Or.inl ⟨by rfl, ?_⟩) ?_ ?_
          rotate_left
          · intro w'
            go_simp
            with_reducible rfl
          rotate_left
          · exact AP_
          refine one_ (i := 13) (N := some 90) #[true, true, true, true, true, true, true, true, true, true, true, true, true, true, true, true, true, true, false, false, false, false, false, false, false, false, false, false] rfl rfl (one_of HT_.out (by kernel_rfl)) (by decide) (fun K hK => ?_)
          refine goes_ Try.func18 (by kernel_rfl) rfl #[.agg #[.int .i64 a0_0, .slice A0_1 l0_1.length c0_1], .agg #[.int .i64 a1_0, .int .i64 a1_1, .int .i64 a1_2, .int .i64 a1_3, .int .i64 a1_4]] (by rfl) rfl rfl MP_ ?_
          with_reducible refine (post_May.calls kj46 a0_0 _ _ l0_1 a1_0 a1_1 a1_2 a1_3 a1_4 _ _ ?side1 ?side2 A85.out).mono ?_
          (case side1 => exact sd_ (Kd.C_below HR0_1.out HB.out))
          (case side2 => exact HC0_1.out)
          rintro e w93 ⟨rfl, hb⟩
          refine ⟨_, rfl, ?_⟩
          have n_ := a_ (rb_ HO_574001 hb) (a_ (rb_ HO_580001 hb) (a_ (Aside0.mk (Kd.V_below (by (with_reducible repeat (first | apply Kd.V_alloc | apply Kd.V_drewN | apply Kd.V_drew)); exact HO_590001.out) hb)) (a_ (Aside0.mk (Kd.V_below (by (with_reducible repeat (first | apply Kd.V_alloc | apply Kd.V_drewN | apply Kd.V_drew)); exact HO594.out) hb)) (a_ (bb_ BK563 hb) (a_ (bb_ BK564 hb) (a_ (bb_ BK573 hb) (a_ (bb_ BK579 hb) (a_ (bb_ BK589 hb) (bs_ HB hb)))))))))
          clear HO_574001 HO_580001 HO_590001 HO594 BK563 BK564 BK573 BK579 BK589 HB
          obtain ⟨HO_574001, HO_580001, HO_590001, HO594, BK563, BK564, BK573, BK579, BK589, HB⟩ := n_
          (try clear hb)
          (try clear hb2)
          (try clear hk)
          (try clear hi)
          refine hK.out _ _ ⟨(blk_cell BK573.out 0).trans rfl, (blk_cell BK573.out 1).trans rfl, (blk_cell BK563.out 0).trans rfl, (blk_cell BK563.out 1).trans rfl, (blk_cell BK564.out 0).trans rfl, (blk_cell BK564.out 1).trans rfl, (blk_cell BK564.out 2).trans rfl, (blk_cell BK564.out 3).trans rfl, (blk_cell BK564.out 4).trans rfl, (blk_cell BK579.out 0).trans rfl, (blk_cell BK579.out 1).trans rfl, (blk_cell BK589.out 0).trans rfl, (blk_cell BK589.out 1).trans rfl⟩ (fun hHeld => ?_)
          clear hK K
          refine norm_ (a' := ?_) ?_ ?_
          rotate_left
          · show Act.put _ (some 90) _ = _
            simp only [Act.put, List.setIfInBounds_toArray, List.set_cons_zero, List.set_cons_succ, i64_w, i32_w]
            rfl
          refine pure_ (i := 18) (N := some 95) (v := ?_) (a' := ?_) #[true, true, true, true, true, true, true, true, true, true, true, true, true, true, true, true, true, true, true, false, false, false, false, false, false, false, false, false] rfl rfl (any_of HT_.out (by kernel_rfl)) (fun _ _ _ h => h) (Or.inl ⟨by rfl, ?_⟩) ?_ ?_
          rotate_left
          · intro w'
            go_simp
            with_reducible rfl
          rotate_left
          · exact AP_
          refine pure_ (i := 19) (N := some 96) (v := ?_) (a' := ?_) #[true, true, true, true, true, true, true, true, true, true, true, true, true, true, true, true, true, true, true, true, false, false, false, false, false, false, false, false] rfl rfl (any_of HT_.out (by kernel_rfl)) (fun _ _ _ h => h) (Or.inl ⟨by rfl, ?_⟩) ?_ ?_
          rotate_left
          · intro w'
            go_simp
            with_reducible rfl
          rotate_left
          · exact AP_
          refine pure_ (i := 20) (N := some 97) (v := ?_) (a' := ?_) #[true, true, true, true, true, true, true, true, true, true, true, true, true, true, true, true, true, true, true, true, true, false, false, false, false, false, false, false] rfl rfl (any_of HT_.out (by kernel_rfl)) (fun _ _ _ h => h) (Or.inl ⟨by rfl, ?_⟩) ?_ ?_
          rotate_left
          · intro w'
            go_simp
            with_reducible rfl
          rotate_left
          · exact AP_
          refine pure_ (i := 24) (N := some 101) (v := ?_) (a' := ?_) #[true, true, true, true, true, true, true, true, true, true, true, true, true, true, true, true, true, true, true, true, true, false, false, false, true, false, false, false] rfl rfl (any_of HT_.out (by kernel_rfl)) (fun _ _ _ h => h) (Or.inl ⟨by rfl, ?_⟩) ?_ ?_
          rotate_left
          · intro w'
            go_simp
            with_reducible rfl
          rotate_left
          · exact AP_
          refine take_ (i := 21) (N := some 98) (v := ?_) (a' := ?_) #[true, true, true, true, true, true, true, true, true, true, true, true, true, true, true, true, true, true, true, true, true, true, false, false, true, false, false, false] rfl rfl (take_ofW HT_.out HW_.out (by kernel_rfl)) (fun _ _ _ h => h) (Or.inl ⟨by rfl, ?_⟩) hHeld ?_ ?_
          rotate_left
          · rintro w' ⟨s0, s1, s2, s3, s4, s5, s6, s7, s8, s9, s10, s11, s12⟩
            go_simp
            with_reducible rfl
          rotate_left
          · exact AP_
          refine take_ (i := 22) (N := some 99) (v := ?_) (a' := ?_) #[true, true, true, true, true, true, true, true, true, true, true, true, true, true, true, true, true, true, true, true, true, true, true, false, true, false, false, false] rfl rfl (take_ofW HT_.out HW_.out (by kernel_rfl)) (fun _ _ _ h => h) (Or.inl ⟨by rfl, ?_⟩) hHeld ?_ ?_
          rotate_left
          · rintro w' ⟨s0, s1, s2, s3, s4, s5, s6, s7, s8, s9, s10, s11, s12⟩
            go_simp
            with_reducible rfl
          rotate_left
          · exact AP_
          refine one_ (i := 23) (N := some 100) #[true, true, true, true, true, true, true, true, true, true, true, true, true, true, true, true, true, true, true, true, true, true, true, true, true, false, false, false] rfl rfl (one_of HT_.out (by kernel_rfl)) (by decide) (fun K hK => ?_)
          refine goes_ Try.func19 (by kernel_rfl) rfl #[.agg #[.int .i64 a0_0, .slice A0_1 l0_1.length c0_1], .agg #[.int .i64 a1_0, .int .i64 a1_1, .int .i64 a1_2, .int .i64 a1_3, .int .i64 a1_4]] (by rfl) rfl rfl MP_ ?_
          with_reducible refine (post_Must.calls kj46 a0_0 _ _ l0_1 a1_0 a1_1 a1_2 a1_3 a1_4 t598 _ ?side1 ?side2 A87.out).mono ?_
          (case side1 => exact sd_ (Kd.C_below HR0_1.out HB.out))
          (case side2 => exact HC0_1.out)
          rintro e w94 ⟨rfl, hb⟩
          refine ⟨_, rfl, ?_⟩
          have n_ := a_ (rb_ HO_574001 hb) (a_ (rb_ HO_580001 hb) (a_ (Aside0.mk (Kd.V_below (by (with_reducible repeat (first | apply Kd.V_alloc | apply Kd.V_drewN | apply Kd.V_drew)); exact HO_590001.out) hb)) (a_ (Aside0.mk (Kd.V_below (by (with_reducible repeat (first | apply Kd.V_alloc | apply Kd.V_drewN | apply Kd.V_drew)); exact HO594.out) hb)) (a_ (bb_ BK563 hb) (a_ (bb_ BK564 hb) (a_ (bb_ BK573 hb) (a_ (bb_ BK579 hb) (a_ (bb_ BK589 hb) (bs_ HB hb)))))))))
          clear HO_574001 HO_580001 HO_590001 HO594 BK563 BK564 BK573 BK579 BK589 HB
          obtain ⟨HO_574001, HO_580001, HO_590001, HO594, BK563, BK564, BK573, BK579, BK589, HB⟩ := n_
          (try clear hb)
          (try clear hb2)
          (try clear hk)
          (try clear hi)
          refine hK.out _ _ ⟨(blk_cell BK573.out 0).trans rfl, (blk_cell BK573.out 1).trans rfl, (blk_cell BK563.out 0).trans rfl, (blk_cell BK563.out 1).trans rfl, (blk_cell BK564.out 0).trans rfl, (blk_cell BK564.out 1).trans rfl, (blk_cell BK564.out 2).trans rfl, (blk_cell BK564.out 3).trans rfl, (blk_cell BK564.out 4).trans rfl, (blk_cell BK579.out 0).trans rfl, (blk_cell BK579.out 1).trans rfl, (blk_cell BK589.out 0).trans rfl, (blk_cell BK589.out 1).trans rfl⟩ (fun hHeld => ?_)
          clear hK K
          refine norm_ (a' := ?_) ?_ ?_
          rotate_left
          · show Act.put _ (some 100) _ = _
            simp only [Act.put, List.setIfInBounds_toArray, List.set_cons_zero, List.set_cons_succ, i64_w, i32_w]
            rfl
          refine pure_ (i := 25) (N := some 102) (v := ?_) (a' := ?_) #[true, true, true, true, true, true, true, true, true, true, true, true, true, true, true, true, true, true, true, true, true, true, true, true, true, true, false, false] rfl rfl (any_of HT_.out (by kernel_rfl)) (fun _ _ _ h => h) (Or.inl ⟨by rfl, ?_⟩) ?_ ?_
          rotate_left
          · intro w'
            go_simp
            with_reducible rfl
          rotate_left
          · exact AP_
          refine pure_ (i := 26) (N := some 103) (v := ?_) (a' := ?_) #[true, true, true, true, true, true, true, true, true, true, true, true, true, true, true, true, true, true, true, true, true, true, true, true, true, true, true, false] rfl rfl (any_of HT_.out (by kernel_rfl)) (fun _ _ _ h => h) (Or.inl ⟨by rfl, ?_⟩) ?_ ?_
          rotate_left
          · intro w'
            go_simp
            with_reducible rfl
          rotate_left
          · exact AP_
          refine pure_ (i := 27) (N := some 4) (v := ?_) (a' := ?_) #[true, true, true, true, true, true, true, true, true, true, true, true, true, true, true, true, true, true, true, true, true, true, true, true, true, true, true, true] rfl rfl (any_of HT_.out (by kernel_rfl)) (fun _ _ _ h => h) (Or.inl ⟨by rfl, ?_⟩) ?_ ?_
          rotate_left
          · intro w'
            go_simp
            with_reducible rfl
          rotate_left
          · exact AP_
          refine done_ (done_of HT_.out (by kernel_rfl)) ?_
          try go_wp2
          go_ret
          exact ⟨by first | rfl | (simp [errW_none, errW_some] <;> rfl) | (simp [*, errW_none, errW_some] <;> rfl), HB_⟩
/-- THE ONE PURE STATEMENT of warrantorlaw14_PostTells: yours. -/
def warrantorlaw14_PostTells.Pure : Prop := ∀ (a0_0 : Int) (l0_1 : List Int) (a1_0 : Int) (a1_1 : Int) (a1_2 : Int) (a1_3 : Int) (a1_4 : Int), (Lit.int .i64 a0_0).wf = true → l0_1.length ≤ maxLen → l0_1.length * 8 ≤ 140737488351232 → (∀ x ∈ l0_1, (Lit.int .i64 x).wf = true) → (Lit.int .i64 a1_0).wf = true → (Lit.int .i64 a1_1).wf = true → (Lit.int .i64 a1_2).wf = true → (Lit.int .i64 a1_3).wf = true → (Lit.int .i64 a1_4).wf = true → ∃ k, warrantorlaw14_PostTells.f k a0_0 l0_1 a1_0 a1_1 a1_2 a1_3 a1_4 = some true
theorem warrantorlaw14_PostTells.walk (P : warrantorlaw14_PostTells.Pure) (a0_0 : Int) (a0_1 : Option Addr) (len0_1 cap0_1 : Nat) (z0_1 : List Int) (a1_0 : Int) (a1_1 : Int) (a1_2 : Int) (a1_3 : Int) (a1_4 : Int) (w : World) (w0_0 : (Lit.int .i64 a0_0).wf = true) (w0_1 : (a0_1 = none ∧ len0_1 = 0 ∧ cap0_1 = 0 ∧ z0_1 = []) ∨ ∃ x, a0_1 = some x ∧ len0_1 ≤ cap0_1 ∧ cap0_1 ≤ maxLen ∧ z0_1.length = cap0_1 ∧ (∀ i, i < z0_1.length → w.cell? (x.add i) = some (.int .i64 (z0_1.getD i 0))) ∧ ∀ n ∈ z0_1, (Lit.int .i64 n).wf = true) (y0_1 : len0_1 * 8 ≤ 140737488351232) (w1_0 : (Lit.int .i64 a1_0).wf = true) (w1_1 : (Lit.int .i64 a1_1).wf = true) (w1_2 : (Lit.int .i64 a1_2).wf = true) (w1_3 : (Lit.int .i64 a1_3).wf = true) (w1_4 : (Lit.int .i64 a1_4).wf = true) :
    Calls Try.prog 3 #[.agg #[.int .i64 a0_0, .slice a0_1 len0_1 cap0_1], .agg #[.int .i64 a1_0, .int .i64 a1_1, .int .i64 a1_2, .int .i64 a1_3, .int .i64 a1_4]] w fun e w' => e = .returned (.bool true) ∧ Below w.heap.size w w' := by
  obtain ⟨l0_1, rfl, hr0_1, hm0_1, hw0_1, hc0_1⟩ := ReadsInt.ofRowC w0_1
  obtain ⟨k, h⟩ := P a0_0 l0_1 a1_0 a1_1 a1_2 a1_3 a1_4 w0_0 hm0_1 y0_1 hw0_1 w1_0 w1_1 w1_2 w1_3 w1_4
  refine (warrantorlaw14_PostTells.calls k a0_0 _ _ l0_1 a1_0 a1_1 a1_2 a1_3 a1_4 true w (Kd.C_of_reads (d := (0 : Int)) (h1 := fun _ => rfl) hr0_1) hc0_1 h).mono ?_
  rintro e w' ⟨rfl, hd⟩
  exact ⟨rfl, hd⟩

end Go.Proofs.Ytgeemdpflcefkaa.Y

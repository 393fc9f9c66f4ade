import Derived.Test.YtpcpbeklaibdfaaCx0
import Derived.Test.YtpcpbeklaibdfaaCx29
namespace Go.Proofs.Ytpcpbeklaibdfaa.C
open Go.RowKit Go.Proofs.YtpcpbeklaibdfaaW.PrintWords Go.Proofs.YtpcpbeklaibdfaaW.PrintLast Go.Proofs.YtpcpbeklaibdfaaW.PrintMore
attribute [local go_sem] max2_int min2_int max_two min_two max_three min_three max_four min_four   -- for this text's walks alone
set_option linter.unusedVariables false
set_option linter.unusedSimpArgs false
def takeB (vs : List Int) (x c d ch : Int) : Int × List Int := putB vs x ch (decide (c ≤ ch) && decide (ch ≤ d))
def run_mover_take.T1 : Bool × List (List Nat × List Nat) := (true, [([], []), ([], []), ([1], [1]), ([2], [2]), ([3], [3]), ([], []), ([5], [5]), ([6], [6]), ([7], [7]), ([], []), ([9], [9]), ([10], [10]), ([11], [11]), ([12], [12]), ([8, 13], [8, 13]), ([14], [14]), ([15], [15]), ([16, 15], [15, 16]), ([17, 15], [15, 17]), ([18, 15], [15, 18]), ([15], [15]), ([20, 15], [15, 20]), ([21, 15], [15, 21]), ([22, 15], [15, 22]), ([23, 15], [15, 23]), ([19, 24, 15], [15, 19, 24]), ([15, 25], [15, 25]), ([0, 4, 26, 15], [0, 4, 26]), ([27, 27, 0, 1, 2, 3, 4, 5, 6, 7, 8, 9, 10, 11, 12, 13, 14, 15, 16, 17, 18, 19, 20, 21, 22, 23, 24, 25, 26, 27], [27])])
def run_mover_take.B1 : List Nat := [0, 0, 2, 6, 14, 0, 32, 96, 224, 0, 512, 1536, 3584, 7680, 16352, 32736, 65504, 131040, 262112, 524256, 65504, 1114080, 3211232, 7405536, 15794144, 33554400, 67108832, 134217727, 268435455]
theorem run_mover_take.tab1 : rtab .any (opsOf Try.f62 1) = run_mover_take.T1 := by kernel_rfl
theorem run_mover_take.bits1 : waitsOk run_mover_take.T1.2 run_mover_take.B1 = true := by kernel_rfl
set_option maxHeartbeats 8000000 in
set_option maxRecDepth 100000 in
theorem run_mover_take.walk (k x y c d ch : Int) (vs : List Int) (AV : Option Addr) (cap : Nat) (g : Nat) (hx0 : 1 ≤ x) (hx1 : x ≤ vs.length) (base : Nat) (ok : Nat → Prop) (w : World) (hbk : w.heap[g]? = some (.cells #[.int .i64 k, .int .i64 x, .int .i64 y, .int .i64 c, .int .i64 d, .slice AV vs.length cap, .int .i64 ch] 73 (0, 0))) (hR : Kd.R (Kd.int .i64) 3 w base ok (.slice AV vs.length cap) vs) :
    Calls Try.prog 62 #[.pointer (some ⟨g, 0, none⟩)] w fun e w' => e = .returned (.int .i64 ((takeB vs x c d ch).1)) ∧ Kd.R (Kd.int .i64) 3 w' base ok (.slice AV vs.length cap) ((takeB vs x c d ch).2) ∧ w.grownBy w' (Value.slice AV vs.length cap).ownBlock := by
  have HR := Aside0.mk hR
  have BM := Aside0.mk hbk
  have HG := Aside0.mk (World.grownBy.refl w (Value.slice AV vs.length cap).ownBlock)
  have HX := Aside0.mk (And.intro hx0 hx1)
  clear hx0 hx1 hR hbk
  by_cases hc : c ≤ ch
  rotate_left
  · have HV := Aside0.mk (show takeB vs x c d ch = putB vs x ch false by rw [takeB, decide_eq_false hc]; rfl)
    rw [HV.out]
    clear HV
    have HCB := Aside0.mk (decide_eq_false hc)
    go_enter Try.func62, Try.ntmps62
    go_wp2
    have hcb := HCB.out
    have n_ := a_ (Aside0.mk (blk_drew BM.out)) (a_ (Aside0.mk (Kd.R_drew HR.out)) (Aside0.mk (HG.out.trans (grown_of_below (Below.refl w.heap.size w).drew _))))
    clear BM HR HG
    obtain ⟨BM, HR, HG⟩ := n_
    refine start_ (n := 29) (S := fun w' => w'.cell? ⟨g, 3, none⟩ = some (.int .i64 c) ∧ w'.cell? ⟨g, 4, none⟩ = some (.int .i64 d) ∧ w'.cell? ⟨g, 6, none⟩ = some (.int .i64 ch)) (ds := []) #[false, false, false, false, false, false, false, false, false, false, false, false, false, false, false, false, false, false, false, false, false, false, false, false, false, false, false, false, false] (by kernel_rfl) rfl rfl ⟨(blk_cell BM.out 3).trans rfl, (blk_cell BM.out 4).trans rfl, (blk_cell BM.out 6).trans rfl⟩ (fun hHeld => ?_); refine with_tabW run_mover_take.tab1 run_mover_take.bits1 (fun HT_ HW_ => ?_)
    generalize hwd_ : w.drew = wd at HR BM HG hHeld ⊢
    clear hwd_
    refine pu_ 0 (some 3) ?_
    refine pu_ 1 (some 4) ?_
    refine pu_ 2 (some 5) ?_
    refine pu_ 3 (some 6) ?_
    refine take_ (i := 4) (N := some 7) (v := ?_) (a' := ?_) #[true, true, true, true, true, false, false, false, false, false, false, false, false, false, false, false, false, false, false, false, false, false, false, false, false, false, false, false, false] rfl rfl (take_ofW HT_.out HW_.out (by kernel_rfl)) (fun _ _ _ h => h) (Or.inl ⟨by rfl, ?_⟩) hHeld ?_ ?_
    rotate_left
    · rintro w' ⟨s0, s1, s2⟩
      go_simp
      with_reducible rfl
    rotate_left
    · exact AP_
    refine pu_ 5 (some 8) ?_
    refine pu_ 6 (some 9) ?_
    refine pu_ 7 (some 10) ?_
    refine take_ (i := 8) (N := some 11) (v := ?_) (a' := ?_) #[true, true, true, true, true, true, true, true, true, false, false, false, false, false, false, false, false, false, false, false, false, false, false, false, false, false, false, false, false] rfl rfl (take_ofW HT_.out HW_.out (by kernel_rfl)) (fun _ _ _ h => h) (Or.inl ⟨by rfl, ?_⟩) hHeld ?_ ?_
    rotate_left
    · rintro w' ⟨s0, s1, s2⟩
      go_simp
      with_reducible rfl
    rotate_left
    · exact AP_
    refine pu_ 9 (some 12) ?_
    refine pu_ 10 (some 13) ?_
    refine pu_ 11 (some 14) ?_
    refine pu_ 12 (some 15) ?_
    refine take_ (i := 13) (N := some 16) (v := ?_) (a' := ?_) #[true, true, true, true, true, true, true, true, true, true, true, true, true, true, false, false, false, false, false, false, false, false, false, false, false, false, false, false, false] rfl rfl (take_ofW HT_.out HW_.out (by kernel_rfl)) (fun _ _ _ h => h) (Or.inl ⟨by rfl, ?_⟩) hHeld ?_ ?_
    rotate_left
    · rintro w' ⟨s0, s1, s2⟩
      go_simp
      with_reducible rfl
    rotate_left
    · exact AP_
    refine pu_ 14 (some 17) ?_
    refine pu_ 15 (some 18) ?_
    refine pv_ 16 (some 19) ?_
    refine pv_ 17 (some 20) ?_
    refine pv_ 18 (some 21) ?_
    refine pv_ 19 (some 22) ?_
    refine pv_ 20 (some 23) ?_
    refine pv_ 21 (some 24) ?_
    refine pv_ 22 (some 25) ?_
    refine pv_ 23 (some 26) ?_
    refine pv_ 24 (some 27) ?_
    refine pv_ 25 (some 28) ?_
    refine pu_ 26 (some 29) ?_
    refine on_ 27 (some 30) (fun K hK => ?_)
    refine goes_ Try.func83 (by kernel_rfl) rfl #[.pointer (some ⟨g, 0, none⟩), .int .i64 ch, .bool false] (by rfl) rfl rfl MP_ ?_
    with_reducible refine (run_mover_put.walk k x y c d ch vs AV cap g ch false HX.out.1 HX.out.2 base ok _ BM.out HR.out).mono ?_
    rintro e_ w7 ⟨rfl, hr, hg⟩
    refine ⟨_, rfl, ?_⟩
    have n_ := a_ (Aside0.mk (blk_grown BM.out hg (Kd.R_ne HR.out BM.out (by decide)))) (a_ (Aside0.mk hr) (Aside0.mk (HG.out.trans hg)))
    clear BM HR HG hr hg
    obtain ⟨BM, HR, HG⟩ := n_
    refine hK.out _ _ ⟨(blk_cell BM.out 3).trans rfl, (blk_cell BM.out 4).trans rfl, (blk_cell BM.out 6).trans rfl⟩ (fun hHeld => ?_)
    clear hK K
    refine nm_ ?_
    refine pu_ 28 (some 2) ?_
    refine done_ (done_of HT_.out (by kernel_rfl)) ?_
    go_wp2
    go_ret
    exact ⟨rfl, HR.out, HG.out⟩
  have HV := Aside0.mk (show takeB vs x c d ch = putB vs x ch (decide (ch ≤ d)) by rw [takeB, decide_eq_true hc]; rfl)
  rw [HV.out]
  clear HV
  go_enter Try.func62, Try.ntmps62
  go_wp2
  have n_ := a_ (Aside0.mk (blk_drew BM.out)) (a_ (Aside0.mk (Kd.R_drew HR.out)) (Aside0.mk (HG.out.trans (grown_of_below (Below.refl w.heap.size w).drew _))))
  clear BM HR HG
  obtain ⟨BM, HR, HG⟩ := n_
  refine start_ (n := 29) (S := fun w' => w'.cell? ⟨g, 3, none⟩ = some (.int .i64 c) ∧ w'.cell? ⟨g, 4, none⟩ = some (.int .i64 d) ∧ w'.cell? ⟨g, 6, none⟩ = some (.int .i64 ch)) (ds := []) #[false, false, false, false, false, false, false, false, false, false, false, false, false, false, false, false, false, false, false, false, false, false, false, false, false, false, false, false, false] (by kernel_rfl) rfl rfl ⟨(blk_cell BM.out 3).trans rfl, (blk_cell BM.out 4).trans rfl, (blk_cell BM.out 6).trans rfl⟩ (fun hHeld => ?_); refine with_tabW run_mover_take.tab1 run_mover_take.bits1 (fun HT_ HW_ => ?_)
  generalize hwd_ : w.drew = wd at HR BM HG hHeld ⊢
  clear hwd_
  refine pu_ 0 (some 3) ?_
  refine pu_ 1 (some 4) ?_
  refine pu_ 2 (some 5) ?_
  refine pu_ 3 (some 6) ?_
  refine take_ (i := 4) (N := some 7) (v := ?_) (a' := ?_) #[true, true, true, true, true, false, false, false, false, false, false, false, false, false, false, false, false, false, false, false, false, false, false, false, false, false, false, false, false] rfl rfl (take_ofW HT_.out HW_.out (by kernel_rfl)) (fun _ _ _ h => h) (Or.inl ⟨by rfl, ?_⟩) hHeld ?_ ?_
  rotate_left
  · rintro w' ⟨s0, s1, s2⟩
    go_simp
    with_reducible rfl
  rotate_left
  · exact AP_
  refine pu_ 5 (some 8) ?_
  refine pu_ 6 (some 9) ?_
  refine pu_ 7 (some 10) ?_
  refine take_ (i := 8) (N := some 11) (v := ?_) (a' := ?_) #[true, true, true, true, true, true, true, true, true, false, false, false, false, false, false, false, false, false, false, false, false, false, false, false, false, false, false, false, false] rfl rfl (take_ofW HT_.out HW_.out (by kernel_rfl)) (fun _ _ _ h => h) (Or.inl ⟨by rfl, ?_⟩) hHeld ?_ ?_
  rotate_left
  · rintro w' ⟨s0, s1, s2⟩
    go_simp
    with_reducible rfl
  rotate_left
  · exact AP_
  refine pu_ 9 (some 12) ?_
  refine pu_ 10 (some 13) ?_
  refine pu_ 11 (some 14) ?_
  refine pu_ 12 (some 15) ?_
  refine take_ (i := 13) (N := some 16) (v := ?_) (a' := ?_) #[true, true, true, true, true, true, true, true, true, true, true, true, true, true, false, false, false, false, false, false, false, false, false, false, false, false, false, false, false] rfl rfl (take_ofW HT_.out HW_.out (by kernel_rfl)) (fun _ _ _ h => h) (Or.inl ⟨by rfl, ?_⟩) hHeld ?_ ?_
  rotate_left
  · rintro w' ⟨s0, s1, s2⟩
    go_simp
    with_reducible rfl
  rotate_left
  · exact AP_
  refine pu_ 14 (some 17) ?_
  refine pu_ 15 (some 18) ?_
  refine pu_ 16 (some 19) ?_
  refine pu_ 17 (some 20) ?_
  refine pu_ 18 (some 21) ?_
  refine take_ (i := 19) (N := some 22) (v := ?_) (a' := ?_) #[true, true, true, true, true, true, true, true, true, true, true, true, true, true, true, true, true, true, true, true, false, false, false, false, false, false, false, false, false] rfl rfl (take_ofW HT_.out HW_.out (by kernel_rfl)) (fun _ _ _ h => h) (Or.inl ⟨by rfl, ?_⟩) hHeld ?_ ?_
  rotate_left
  · rintro w' ⟨s0, s1, s2⟩
    go_simp
    with_reducible rfl
  rotate_left
  · exact AP_
  refine pu_ 20 (some 23) ?_
  refine pu_ 21 (some 24) ?_
  refine pu_ 22 (some 25) ?_
  refine pu_ 23 (some 26) ?_
  refine take_ (i := 24) (N := some 27) (v := ?_) (a' := ?_) #[true, true, true, true, true, true, true, true, true, true, true, true, true, true, true, true, true, true, true, true, true, true, true, true, true, false, false, false, false] rfl rfl (take_ofW HT_.out HW_.out (by kernel_rfl)) (fun _ _ _ h => h) (Or.inl ⟨by rfl, ?_⟩) hHeld ?_ ?_
  rotate_left
  · rintro w' ⟨s0, s1, s2⟩
    go_simp
    with_reducible rfl
  rotate_left
  · exact AP_
  refine pu_ 25 (some 28) ?_
  refine pu_ 26 (some 29) ?_
  refine on_ 27 (some 30) (fun K hK => ?_)
  refine goes_ Try.func83 (by kernel_rfl) rfl #[.pointer (some ⟨g, 0, none⟩), .int .i64 ch, .bool (decide (ch ≤ d))] (by rfl) rfl rfl MP_ ?_
  with_reducible refine (run_mover_put.walk k x y c d ch vs AV cap g ch (decide (ch ≤ d)) HX.out.1 HX.out.2 base ok _ BM.out HR.out).mono ?_
  rintro e_ w7 ⟨rfl, hr, hg⟩
  refine ⟨_, rfl, ?_⟩
  have n_ := a_ (Aside0.mk (blk_grown BM.out hg (Kd.R_ne HR.out BM.out (by decide)))) (a_ (Aside0.mk hr) (Aside0.mk (HG.out.trans hg)))
  clear BM HR HG hr hg
  obtain ⟨BM, HR, HG⟩ := n_
  refine hK.out _ _ ⟨(blk_cell BM.out 3).trans rfl, (blk_cell BM.out 4).trans rfl, (blk_cell BM.out 6).trans rfl⟩ (fun hHeld => ?_)
  clear hK K
  refine nm_ ?_
  refine pu_ 28 (some 2) ?_
  refine done_ (done_of HT_.out (by kernel_rfl)) ?_
  go_wp2
  go_ret
  exact ⟨rfl, HR.out, HG.out⟩
end Go.Proofs.Ytpcpbeklaibdfaa.C

import Derived.Test.YtpcpbeklaibdfaaCx0
import Derived.Test.YtpcpbeklaibdfaaCx26
namespace Go.Proofs.Ytpcpbeklaibdfaa.C
open Go.RowKit Go.Proofs.YtpcpbeklaibdfaaW.PrintWords Go.Proofs.YtpcpbeklaibdfaaW.PrintLast Go.Proofs.YtpcpbeklaibdfaaW.PrintMore
attribute [local go_sem] max2_int min2_int max_two min_two max_three min_three max_four min_four   -- for this text's walks alone
set_option linter.unusedVariables false
set_option linter.unusedSimpArgs false
/-- Whether a difference is small. -/
def limB (vs : List Int) (x y c : Int) : Int := if wrap64 (valAt vs x - valAt vs y) > c then 130 else 0
def run_mover_limit.T1 : Bool × List (List Nat × List Nat) := (true, [([], []), ([], []), ([1], [1]), ([2], [2]), ([3], [3]), ([4], [4]), ([0, 5], [0, 5]), ([], []), ([], []), ([8], [8]), ([9], [9]), ([10], [10]), ([11], [11]), ([7, 12, 6], [7, 12]), ([6, 13], [6, 13]), ([], []), ([15], [15]), ([16], [16]), ([17], [17]), ([18], [18]), ([14, 19], [14, 19])])
def run_mover_limit.B1 : List Nat := [0, 0, 2, 6, 14, 30, 63, 0, 0, 256, 768, 1792, 3840, 8191, 16383, 0, 32768, 98304, 229376, 491520, 1048575]
theorem run_mover_limit.tab1 : rtab .any (opsOf Try.f63 1) = run_mover_limit.T1 := by kernel_rfl
theorem run_mover_limit.bits1 : waitsOk run_mover_limit.T1.2 run_mover_limit.B1 = true := by kernel_rfl
set_option maxHeartbeats 8000000 in
set_option maxRecDepth 100000 in
theorem run_mover_limit.walk (k x y c d ch : Int) (vs : List Int) (AV : Option Addr) (cap : Nat) (g : Nat) (hx0 : 0 ≤ x) (hx1 : x ≤ vs.length) (hy0 : 0 ≤ y) (hy1 : y ≤ vs.length) (w : World) (hbk : w.heap[g]? = some (.cells #[.int .i64 k, .int .i64 x, .int .i64 y, .int .i64 c, .int .i64 d, .slice AV vs.length cap, .int .i64 ch] 73 (0, 0))) (hC : Kd.C (Kd.int .i64) w AV vs.length vs) :
    Calls Try.prog 63 #[.pointer (some ⟨g, 0, none⟩)] w fun e w' => e = .returned (.int .i64 (limB vs x y c)) ∧ Below w.heap.size w w' := by
  have HB := Aside0.mk (Below.refl w.heap.size w)
  have BM := Aside0.mk hbk
  have HC := Aside0.mk hC
  clear hbk hC
  have HX := Aside0.mk (And.intro (And.intro hx0 hx1) (And.intro hy0 hy1))
  clear hx0 hx1 hy0 hy1
  go_enter Try.func63, Try.ntmps63
  go_wp2
  have n_ := a_ (Aside0.mk HB.out.drew) (a_ (Aside0.mk (blk_drew BM.out)) (Aside0.mk (Kd.C_drew HC.out)))
  clear HB BM HC
  obtain ⟨HB, BM, HC⟩ := n_
  refine start_ (n := 21) (S := fun w' => w'.cell? ⟨g, 1, none⟩ = some (.int .i64 x) ∧ w'.cell? ⟨g, 2, none⟩ = some (.int .i64 y) ∧ w'.cell? ⟨g, 3, none⟩ = some (.int .i64 c)) (ds := []) #[false, false, false, false, false, false, false, false, false, false, false, false, false, false, false, false, false, false, false, false, false] (by kernel_rfl) rfl rfl ⟨(blk_cell BM.out 1).trans rfl, (blk_cell BM.out 2).trans rfl, (blk_cell BM.out 3).trans rfl⟩ (fun hHeld => ?_); refine with_tabW run_mover_limit.tab1 run_mover_limit.bits1 (fun HT_ HW_ => ?_)
  generalize hwd_ : w.drew = wd at HB BM HC hHeld ⊢
  clear hwd_
  refine pu_ 0 (some 3) ?_
  refine pu_ 1 (some 4) ?_
  refine pu_ 2 (some 5) ?_
  refine pu_ 3 (some 6) ?_
  refine pu_ 4 (some 7) ?_
  refine take_ (i := 5) (N := some 8) (v := ?_) (a' := ?_) #[true, true, true, true, true, true, false, false, false, false, false, false, false, false, false, false, false, false, false, false, false] rfl rfl (take_ofW HT_.out HW_.out (by kernel_rfl)) (fun _ _ _ h => h) (Or.inl ⟨by rfl, ?_⟩) hHeld ?_ ?_
  rotate_left
  · rintro w' ⟨s0, s1, s2⟩
    go_simp
    with_reducible rfl
  rotate_left
  · exact AP_
  refine pu_ 7 (some 10) ?_
  refine pu_ 8 (some 11) ?_
  refine pu_ 9 (some 12) ?_
  refine pu_ 10 (some 13) ?_
  refine pu_ 11 (some 14) ?_
  refine take_ (i := 12) (N := some 15) (v := ?_) (a' := ?_) #[true, true, true, true, true, true, false, true, true, true, true, true, true, false, false, false, false, false, false, false, false] rfl rfl (take_ofW HT_.out HW_.out (by kernel_rfl)) (fun _ _ _ h => h) (Or.inl ⟨by rfl, ?_⟩) hHeld ?_ ?_
  rotate_left
  · rintro w' ⟨s0, s1, s2⟩
    go_simp
    with_reducible rfl
  rotate_left
  · exact AP_
  refine pu_ 15 (some 18) ?_
  refine pu_ 16 (some 19) ?_
  refine pu_ 17 (some 20) ?_
  refine pu_ 18 (some 21) ?_
  refine take_ (i := 19) (N := some 22) (v := ?_) (a' := ?_) #[true, true, true, true, true, true, false, true, true, true, true, true, true, false, false, true, true, true, true, true, false] rfl rfl (take_ofW HT_.out HW_.out (by kernel_rfl)) (fun _ _ _ h => h) (Or.inl ⟨by rfl, ?_⟩) hHeld ?_ ?_
  rotate_left
  · rintro w' ⟨s0, s1, s2⟩
    go_simp
    with_reducible rfl
  rotate_left
  · exact AP_
  refine on_ 6 (some 9) (fun K hK => ?_)
  refine goes_ Try.func85 (by kernel_rfl) rfl #[.pointer (some ⟨g, 0, none⟩), .int .i64 x] (by rfl) rfl rfl MP_ ?_
  with_reducible refine (run_mover_at.walk k x y c d ch vs AV cap g x HX.out.1.1 HX.out.1.2 _ BM.out HC.out).mono ?_
  rintro e_ w7 ⟨rfl, hb⟩
  refine ⟨_, rfl, ?_⟩
  have n_ := a_ (bs_ HB hb) (a_ (bb_ BM hb) (Aside0.mk (Kd.C_below HC.out hb)))
  clear HB BM HC hb
  obtain ⟨HB, BM, HC⟩ := n_
  refine hK.out _ _ ⟨(blk_cell BM.out 1).trans rfl, (blk_cell BM.out 2).trans rfl, (blk_cell BM.out 3).trans rfl⟩ (fun hHeld => ?_)
  clear hK K
  refine nm_ ?_
  refine on_ 13 (some 16) (fun K hK => ?_)
  refine goes_ Try.func85 (by kernel_rfl) rfl #[.pointer (some ⟨g, 0, none⟩), .int .i64 y] (by rfl) rfl rfl MP_ ?_
  with_reducible refine (run_mover_at.walk k x y c d ch vs AV cap g y HX.out.2.1 HX.out.2.2 _ BM.out HC.out).mono ?_
  rintro e_ w7 ⟨rfl, hb⟩
  refine ⟨_, rfl, ?_⟩
  have n_ := a_ (bs_ HB hb) (a_ (bb_ BM hb) (Aside0.mk (Kd.C_below HC.out hb)))
  clear HB BM HC hb
  obtain ⟨HB, BM, HC⟩ := n_
  refine hK.out _ _ ⟨(blk_cell BM.out 1).trans rfl, (blk_cell BM.out 2).trans rfl, (blk_cell BM.out 3).trans rfl⟩ (fun hHeld => ?_)
  clear hK K
  refine nm_ ?_
  refine pu_ 14 (some 17) ?_
  refine pu_ 20 (some 23) ?_
  refine done_ (done_of HT_.out (by kernel_rfl)) ?_
  by_cases hl : wrap64 (valAt vs x - valAt vs y) > c
  · have HL := Aside0.mk hl
    go_wp2
    go_ret
    exact ⟨by rw [limB, if_pos HL.out]; rfl, HB.out⟩
  have HL := Aside0.mk hl
  go_wp2
  go_ret
  exact ⟨by rw [limB, if_neg (Int.not_lt.mpr HL.out)]; rfl, HB.out⟩
end Go.Proofs.Ytpcpbeklaibdfaa.C

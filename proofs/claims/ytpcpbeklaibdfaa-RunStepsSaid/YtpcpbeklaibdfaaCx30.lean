import Derived.Test.YtpcpbeklaibdfaaCx0
import Derived.Test.YtpcpbeklaibdfaaCx15
import Derived.Test.YtpcpbeklaibdfaaCx18
import Derived.Test.YtpcpbeklaibdfaaCx24
import Derived.Test.YtpcpbeklaibdfaaCx26
import Derived.Test.YtpcpbeklaibdfaaCx29
namespace Go.Proofs.Ytpcpbeklaibdfaa.C
open Go.RowKit Go.Proofs.YtpcpbeklaibdfaaW.PrintWords Go.Proofs.YtpcpbeklaibdfaaW.PrintLast Go.Proofs.YtpcpbeklaibdfaaW.PrintMore
attribute [local go_sem] max2_int min2_int max_two min_two max_three min_three max_four min_four   -- for this text's walks alone
set_option linter.unusedVariables false
set_option linter.unusedSimpArgs false
def clipB (a : Int) : Int := mn (mx a (-1099511627776)) 1099511627776
def addB (a b : Int) : Int × Bool := if isB (wrap64 (clipB a + clipB b)) = true then (wrap64 (clipB a + clipB b), true) else (0, false)
theorem add_f (a b : Int) : val_Add.f a b = some ((addB a b).1, (addB a b).2) := by
  unfold val_Add.f addB
  have h1 : ∀ z, val_Clip.f z = some (clipB z) := fun _ => rfl
  rw [h1, h1, Option.bind_some, Option.bind_some, is_f, Option.bind_some]
  split <;> rfl
def letB (vs : List Int) (x y c : Int) : Int × List Int := putB vs x (addB (valAt vs y) c).1 (addB (valAt vs y) c).2
def run_mover_let.T1 : Bool × List (List Nat × List Nat) := (true, [([], []), ([], []), ([], []), ([2], [2]), ([3], [3]), ([4], [4]), ([5], [5]), ([1, 6], [1, 6]), ([], []), ([8], [8]), ([9], [9]), ([10], [10]), ([11], [11]), ([7, 12, 7], [7, 12]), ([13], [13]), ([13], [13]), ([0, 14, 15, 13], [0, 14, 15]), ([16, 16, 0, 1, 2, 3, 4, 5, 6, 7, 8, 9, 10, 11, 12, 13, 14, 15, 16], [16])])
def run_mover_let.B1 : List Nat := [0, 0, 0, 4, 12, 28, 60, 126, 0, 256, 768, 1792, 3840, 8190, 16382, 16382, 65535, 131071]
theorem run_mover_let.tab1 : rtab .any (opsOf Try.f61 1) = run_mover_let.T1 := by kernel_rfl
theorem run_mover_let.bits1 : waitsOk run_mover_let.T1.2 run_mover_let.B1 = true := by kernel_rfl
set_option maxHeartbeats 8000000 in
set_option maxRecDepth 100000 in
theorem run_mover_let.walk (k x y c d ch : Int) (vs : List Int) (AV : Option Addr) (cap : Nat) (g : Nat) (hx0 : 1 ≤ x) (hx1 : x ≤ vs.length) (hy0 : 0 ≤ y) (hy1 : y ≤ vs.length) (base : Nat) (ok : Nat → Prop) (w : World) (hbk : w.heap[g]? = some (.cells #[.int .i64 k, .int .i64 x, .int .i64 y, .int .i64 c, .int .i64 d, .slice AV vs.length cap, .int .i64 ch] 73 (0, 0))) (hR : Kd.R (Kd.int .i64) 3 w base ok (.slice AV vs.length cap) vs) :
    Calls Try.prog 61 #[.pointer (some ⟨g, 0, none⟩)] w fun e w' => e = .returned (.int .i64 ((letB vs x y c).1)) ∧ Kd.R (Kd.int .i64) 3 w' base ok (.slice AV vs.length cap) ((letB vs x y c).2) ∧ w.grownBy w' (Value.slice AV vs.length cap).ownBlock := by
  have HR := Aside0.mk hR
  have BM := Aside0.mk hbk
  have HG := Aside0.mk (World.grownBy.refl w (Value.slice AV vs.length cap).ownBlock)
  have HX := Aside0.mk (And.intro (And.intro hx0 hx1) (And.intro hy0 hy1))
  clear hx0 hx1 hy0 hy1 hR hbk
  go_enter Try.func61, Try.ntmps61
  go_wp2
  have n_ := a_ (Aside0.mk (blk_drew BM.out)) (a_ (Aside0.mk (Kd.R_drew HR.out)) (Aside0.mk (HG.out.trans (grown_of_below (Below.refl w.heap.size w).drew _))))
  clear BM HR HG
  obtain ⟨BM, HR, HG⟩ := n_
  refine start_ (n := 18) (S := fun w' => w'.cell? ⟨g, 2, none⟩ = some (.int .i64 y) ∧ w'.cell? ⟨g, 3, none⟩ = some (.int .i64 c)) (ds := []) #[false, false, false, false, false, false, false, false, false, false, false, false, false, false, false, false, false, false] (by kernel_rfl) rfl rfl ⟨(blk_cell BM.out 2).trans rfl, (blk_cell BM.out 3).trans rfl⟩ (fun hHeld => ?_); refine with_tabW run_mover_let.tab1 run_mover_let.bits1 (fun HT_ HW_ => ?_)
  generalize hwd_ : w.drew = wd at HR BM HG hHeld ⊢
  clear hwd_
  refine pu_ 0 (some 3) ?_
  refine pu_ 1 (some 4) ?_
  refine pu_ 2 (some 5) ?_
  refine pu_ 3 (some 6) ?_
  refine pu_ 4 (some 7) ?_
  refine pu_ 5 (some 8) ?_
  refine take_ (i := 6) (N := some 9) (v := ?_) (a' := ?_) #[true, true, true, true, true, true, true, false, false, false, false, false, false, false, false, false, false, false] rfl rfl (take_ofW HT_.out HW_.out (by kernel_rfl)) (fun _ _ _ h => h) (Or.inl ⟨by rfl, ?_⟩) hHeld ?_ ?_
  rotate_left
  · rintro w' ⟨s0, s1⟩
    go_simp
    with_reducible rfl
  rotate_left
  · exact AP_
  refine pu_ 8 (some 11) ?_
  refine pu_ 9 (some 12) ?_
  refine pu_ 10 (some 13) ?_
  refine pu_ 11 (some 14) ?_
  refine take_ (i := 12) (N := some 15) (v := ?_) (a' := ?_) #[true, true, true, true, true, true, true, false, true, true, true, true, true, false, false, false, false, false] rfl rfl (take_ofW HT_.out HW_.out (by kernel_rfl)) (fun _ _ _ h => h) (Or.inl ⟨by rfl, ?_⟩) hHeld ?_ ?_
  rotate_left
  · rintro w' ⟨s0, s1⟩
    go_simp
    with_reducible rfl
  rotate_left
  · exact AP_
  refine on_ 7 (some 10) (fun K hK => ?_)
  refine goes_ Try.func85 (by kernel_rfl) rfl #[.pointer (some ⟨g, 0, none⟩), .int .i64 y] (by rfl) rfl rfl MP_ ?_
  with_reducible refine (run_mover_at.walk k x y c d ch vs AV cap g y HX.out.2.1 HX.out.2.2 _ BM.out (Kd.R_reads' HR.out).2.2).mono ?_
  rintro e_ w7 ⟨rfl, hb⟩
  refine ⟨_, rfl, ?_⟩
  have n_ := a_ (Aside0.mk (blk_below BM.out hb)) (a_ (Aside0.mk (Kd.R_below HR.out hb)) (Aside0.mk (HG.out.trans (grown_of_below hb _))))
  clear BM HR HG hb
  obtain ⟨BM, HR, HG⟩ := n_
  refine hK.out _ _ ⟨(blk_cell BM.out 2).trans rfl, (blk_cell BM.out 3).trans rfl⟩ (fun hHeld => ?_)
  clear hK K
  refine nm_ ?_
  refine on_ 13 (some 16) (fun K hK => ?_)
  refine goes_ Try.func84 (by kernel_rfl) rfl #[.int .i64 (valAt vs y), .int .i64 c] (by rfl) rfl rfl MP_ ?_
  with_reducible refine (val_Add.calls (valAt vs y) c _ _ _ (add_f _ _)).mono ?_
  rintro e_ w7 ⟨rfl, hb⟩
  refine ⟨_, rfl, ?_⟩
  have n_ := a_ (Aside0.mk (blk_below BM.out hb)) (a_ (Aside0.mk (Kd.R_below HR.out hb)) (Aside0.mk (HG.out.trans (grown_of_below hb _))))
  clear BM HR HG hb
  obtain ⟨BM, HR, HG⟩ := n_
  refine hK.out _ _ ⟨(blk_cell BM.out 2).trans rfl, (blk_cell BM.out 3).trans rfl⟩ (fun hHeld => ?_)
  clear hK K
  refine nm_ ?_
  refine pu_ 14 (some 17) ?_
  refine pu_ 15 (some 18) ?_
  refine on_ 16 (some 19) (fun K hK => ?_)
  refine goes_ Try.func83 (by kernel_rfl) rfl #[.pointer (some ⟨g, 0, none⟩), .int .i64 (addB (valAt vs y) c).1, .bool (addB (valAt vs y) c).2] (by rfl) rfl rfl MP_ ?_
  with_reducible refine (run_mover_put.walk k x y c d ch vs AV cap g (addB (valAt vs y) c).1 (addB (valAt vs y) c).2 HX.out.1.1 HX.out.1.2 base ok _ BM.out HR.out).mono ?_
  rintro e_ w7 ⟨rfl, hr, hg⟩
  refine ⟨_, rfl, ?_⟩
  have n_ := a_ (Aside0.mk (blk_grown BM.out hg (Kd.R_ne HR.out BM.out (by decide)))) (a_ (Aside0.mk hr) (Aside0.mk (HG.out.trans hg)))
  clear BM HR HG hr hg
  obtain ⟨BM, HR, HG⟩ := n_
  refine hK.out _ _ ⟨(blk_cell BM.out 2).trans rfl, (blk_cell BM.out 3).trans rfl⟩ (fun hHeld => ?_)
  clear hK K
  refine nm_ ?_
  refine pu_ 17 (some 2) ?_
  refine done_ (done_of HT_.out (by kernel_rfl)) ?_
  go_wp2
  go_ret
  exact ⟨rfl, HR.out, HG.out⟩
end Go.Proofs.Ytpcpbeklaibdfaa.C

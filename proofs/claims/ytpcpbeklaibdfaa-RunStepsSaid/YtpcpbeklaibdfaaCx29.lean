import Derived.Test.YtpcpbeklaibdfaaCx0
namespace Go.Proofs.Ytpcpbeklaibdfaa.C
open Go.RowKit Go.Proofs.YtpcpbeklaibdfaaW.PrintWords Go.Proofs.YtpcpbeklaibdfaaW.PrintLast Go.Proofs.YtpcpbeklaibdfaaW.PrintMore
attribute [local go_sem] max2_int min2_int max_two min_two max_three min_three max_four min_four   -- for this text's walks alone
set_option linter.unusedVariables false
set_option linter.unusedSimpArgs false
def putB (vs : List Int) (x n : Int) (may : Bool) : Int × List Int := if may = true then (0, vs.set (x - 1).toNat n) else (130, vs)
def run_mover_put.T3 : Bool × List (List Nat × List Nat) := (true, [([], []), ([0], [0]), ([1], [1]), ([2], [2]), ([], []), ([4], [4]), ([5], [5]), ([6], [6]), ([7], [7]), ([8], [8]), ([], []), ([3, 9, 0, 1, 2, 3, 4, 5, 6, 7, 8, 9, 10], [3, 9]), ([11, 10, 0, 1, 2, 3, 4, 5, 6, 7, 8, 9, 10], [10, 11])])
def run_mover_put.B3 : List Nat := [0, 1, 3, 7, 0, 16, 48, 112, 240, 496, 0, 2047, 4095]
theorem run_mover_put.tab3 : rtab .any (opsOf Try.f83 3) = run_mover_put.T3 := by kernel_rfl
theorem run_mover_put.bits3 : waitsOk run_mover_put.T3.2 run_mover_put.B3 = true := by kernel_rfl
theorem R_at0 {e base n cap : Nat} {w : World} {ok : Nat → Prop} {A : Option Addr} {xs : List Int} (h : Kd.R (Kd.int .i64) e w base ok (.slice A n cap) xs) (h0 : 0 < xs.length) : ∃ b, A = some ⟨b, 0, none⟩ := by
  obtain ⟨_, h2⟩ := Kd.own_of_R h
  rcases h2 with ⟨_, h3⟩ | ⟨g, _, _, h3, _⟩
  · omega
  · injection h3 with h3
    exact ⟨g, h3⟩
set_option maxHeartbeats 8000000 in
set_option maxRecDepth 100000 in
theorem run_mover_put.walk (k x y c d ch : Int) (vs : List Int) (AV : Option Addr) (cap : Nat) (g : Nat) (n : Int) (may : Bool) (hx0 : 1 ≤ x) (hx1 : x ≤ vs.length) (base : Nat) (ok : Nat → Prop) (w : World) (hbk : w.heap[g]? = some (.cells #[.int .i64 k, .int .i64 x, .int .i64 y, .int .i64 c, .int .i64 d, .slice AV vs.length cap, .int .i64 ch] 73 (0, 0))) (hR : Kd.R (Kd.int .i64) 3 w base ok (.slice AV vs.length cap) vs) :
    Calls Try.prog 83 #[.pointer (some ⟨g, 0, none⟩), .int .i64 n, .bool may] w fun e w' => e = .returned (.int .i64 ((putB vs x n may).1)) ∧ Kd.R (Kd.int .i64) 3 w' base ok (.slice AV vs.length cap) ((putB vs x n may).2) ∧ w.grownBy w' (Value.slice AV vs.length cap).ownBlock := by
  have HG := Aside0.mk (World.grownBy.refl w (Value.slice AV vs.length cap).ownBlock)
  cases may with
  | false =>
    have HR := Aside0.mk hR
    clear hR hbk
    go_enter Try.func83, Try.ntmps83
    go_wp2
    go_ret
    exact ⟨rfl, HR.out, HG.out⟩
  | true =>
    have hm := Kd.C_max (Kd.R_reads' hR).2.2
    obtain ⟨p, rfl⟩ : ∃ p : Nat, x = (p : Int) + 1 := ⟨(x - 1).toNat, by omega⟩
    obtain ⟨b, rfl⟩ := R_at0 hR (by omega)
    have hp0 : (0 : Int) ≤ (p : Int) := Int.natCast_nonneg _
    have hp1 : (p : Int) < (vs.length : Int) := by omega
    have hw1 : wrap64 ((p : Int) + 1 - 1) = (p : Int) := by unfold wrap64; omega
    have hw2 : wrap64 (p : Int) = (p : Int) := by unfold wrap64; omega
    have HV := Aside0.mk (show putB vs ((p : Int) + 1) n true = (0, vs.set p n) by rw [putB, if_pos rfl, Int.add_sub_cancel, Int.toNat_natCast])
    rw [HV.out]
    have HR := Aside0.mk hR
    have BM := Aside0.mk hbk
    have HG2 := Aside0.mk (grown_of_below (Below.refl w.heap.size w).drew (some b))
    clear hR hbk hx0 hx1 HV HG
    go_enter Try.func83, Try.ntmps83
    go_wp2
    have n_ := a_ (Aside0.mk (blk_drew BM.out)) (Aside0.mk (Kd.R_drew HR.out))
    clear HR BM
    obtain ⟨BM, HR⟩ := n_
    obtain ⟨hx13, hf13⟩ := Kd.R_celln 0 HR.out (p : Int) hp0 hp1
    have HPut := Kd.R_put HR.out (p : Int) n
    rw [Int.toNat_natCast] at hx13 hf13 HPut
    have HQ := Aside0.mk HPut
    clear HPut
    refine start_ (n := 13) (S := fun w' => w'.cell? ⟨g, 1, none⟩ = some (.int .i64 ((p : Int) + 1)) ∧ w'.cell? ⟨g, 5, none⟩ = some (.slice (some ⟨b, 0, none⟩) vs.length cap)) (ds := [12]) #[false, false, false, false, false, false, false, false, false, false, false, false, false] (by kernel_rfl) rfl rfl ⟨(blk_cell BM.out 1).trans rfl, (blk_cell BM.out 5).trans rfl⟩ (fun hHeld => ?_); refine with_tabW run_mover_put.tab3 run_mover_put.bits3 (fun HT_ HW_ => ?_)
    generalize hwd_ : w.drew = wd at HR BM HQ HG2 hx13 hf13 hHeld ⊢
    clear hwd_
    refine pu_ 0 (some 9) ?_
    refine pu_ 1 (some 10) ?_
    refine pu_ 2 (some 11) ?_
    refine pu_ 4 (some 13) ?_
    refine pu_ 5 (some 14) ?_
    refine pu_ 6 (some 15) ?_
    refine pu_ 7 (some 16) ?_
    refine pu_ 10 (some 19) ?_
    refine take_ (i := 3) (N := some 12) (v := ?_) (a' := ?_) #[true, true, true, true, true, true, true, true, false, false, true, false, false] rfl rfl (take_ofW HT_.out HW_.out (by kernel_rfl)) (fun _ _ _ h => h) (Or.inl ⟨by rfl, ?_⟩) hHeld ?_ ?_
    rotate_left
    · rintro w' ⟨s0, s1⟩
      go_simp
      with_reducible rfl
    rotate_left
    · exact AP_
    refine take_ (i := 8) (N := some 17) (v := ?_) (a' := ?_) #[true, true, true, true, true, true, true, true, true, false, true, false, false] rfl rfl (take_ofW HT_.out HW_.out (by kernel_rfl)) (fun _ _ _ h => h) (Or.inl ⟨by rfl, ?_⟩) hHeld ?_ ?_
    rotate_left
    · rintro w' ⟨s0, s1⟩
      go_simp
      with_reducible rfl
    rotate_left
    · exact AP_
    refine pu_ 9 (some 18) ?_
    refine pu_ 11 (some 20) ?_
    refine last_ (i := 12) (N := none) #[true, true, true, true, true, true, true, true, true, true, true, true, true] rfl rfl (one_of HT_.out (by kernel_rfl)) (by decide) (fun K hK => ?_)
    refine skip_ (w1 := ?_) (by rfl) rfl ?_ ?_
    rotate_left
    · go_simp
      rfl
    refine hK.out _ _ ?_
    clear hK K
    refine done_ (done_of HT_.out (by kernel_rfl)) ?_
    all_goals go_wp2
    all_goals go_ret
    all_goals exact ⟨rfl, HQ.out.1, HG2.out.trans HQ.out.2⟩
end Go.Proofs.Ytpcpbeklaibdfaa.C

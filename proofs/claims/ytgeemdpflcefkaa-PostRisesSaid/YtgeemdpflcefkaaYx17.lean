import Derived.Test.YtgeemdpflcefkaaYx0
import Derived.Test.YtgeemdpflcefkaaYx4
namespace Go.Proofs.Ytgeemdpflcefkaa.Y
open Go.RowKit Go.Proofs.YtgeemdpflcefkaaW.PrintWords Go.Proofs.YtgeemdpflcefkaaW.PrintLast Go.Proofs.YtgeemdpflcefkaaW.PrintMore
attribute [local go_sem] max2_int min2_int max_two min_two max_three min_three max_four min_four   -- for this text's walks alone
set_option linter.unusedVariables false
set_option linter.unusedSimpArgs false
set_option maxHeartbeats 8000000 in
set_option maxRecDepth 100000 in
theorem mat_atA (n i j : Nat) (hn : n ≤ 8) (hi : i ≤ n) (hj : j ≤ n) (g : Nat) (B : Option Addr) (len cap : Nat) (p : Nat) (hp : p = i * (n + 1) + j) (w : World) (hbk : w.heap[g]? = some (.cells #[.int .i64 n, .slice B len cap] 87 (0, 0))) :
  Calls Try.prog 74 #[.pointer (some ⟨g, 0, none⟩), .int .i64 i, .int .i64 j] w fun e w' => e = .returned (.int .i64 (p : Int)) ∧ Below w.heap.size w w' := by
 have e0 : wrap64 ((wrap64 ((i : Int) * (wrap64 ((n : Int) + 1)))) + (j : Int)) = (p : Int) := by
  subst hp
  have hp : i * (n + 1) ≤ 8 * 9 := Nat.mul_le_mul (by omega) (by omega)
  have e1 : wrap64 ((n : Int) + 1) = ((n + 1 : Nat) : Int) := by unfold wrap64; omega
  have e2 : (i : Int) * ((n + 1 : Nat) : Int) = ((i * (n + 1) : Nat) : Int) := by rw [Int.natCast_mul]
  rw [e1, e2]
  generalize i * (n + 1) = p at hp ⊢
  unfold wrap64; omega
 have e0' : wrap64 ((wrap64 ((i : Int) * ((n : Int) + 1))) + (j : Int)) = (p : Int) := by
  rwa [show wrap64 ((n : Int) + 1) = (n : Int) + 1 by unfold wrap64; omega] at e0
 have HB := Aside0.mk (Below.refl w.heap.size w)
 have hc0 : w.cell? ⟨g, 0, none⟩ = some (.int .i64 n) := (blk_cell hbk 0).trans rfl
 have hf0 := blk_frozen hbk 0
 clear hbk
 go_enter Try.func74, Try.ntmps74
 go_wp2
 go_ret
 refine ⟨?_, HB_⟩
 first | exact congrArg (fun z => Ending.returned (.int .i64 z)) e0 | exact congrArg (fun z => Ending.returned (.int .i64 z)) e0' | (simp only [i64_w]; exact congrArg (fun z => Ending.returned (.int .i64 z)) e0) | (simp only [i64_w]; exact congrArg (fun z => Ending.returned (.int .i64 z)) e0') | (simp; exact e0')
theorem mat_at (n i j : Nat) (hn : n ≤ 8) (hi : i ≤ n) (hj : j ≤ n) (g b len cap : Nat) (p : Nat) (hp : p = i * (n + 1) + j) (w : World) (hbk : w.heap[g]? = some (.cells #[.int .i64 n, .slice (some ⟨b, 0, none⟩) len cap] 87 (0, 0))) :
  Calls Try.prog 74 #[.pointer (some ⟨g, 0, none⟩), .int .i64 i, .int .i64 j] w fun e w' => e = .returned (.int .i64 (p : Int)) ∧ Below w.heap.size w w' :=
 mat_atA n i j hn hi hj g (some ⟨b, 0, none⟩) len cap p hp w hbk
def zone_matrix_limit.T1 : Bool × List (List Nat × List Nat) := (true, [([], []), ([0], [0]), ([1], [1]), ([2], [2]), ([], []), ([], []), ([5], [5]), ([6], [6]), ([7], [7]), ([], []), ([8, 9], [8, 9]), ([10], [10]), ([], []), ([11, 12], [11, 12]), ([3, 4, 0, 1, 2, 3, 4, 5, 6, 7, 8, 9, 10, 11, 12, 13], [3, 4]), ([14, 13, 0, 1, 2, 3, 4, 5, 6, 7, 8, 9, 10, 11, 12, 13], [13, 14])])
def zone_matrix_limit.B1 : List Nat := [0, 1, 3, 7, 0, 0, 32, 96, 224, 0, 992, 2016, 0, 8160, 16383, 32767]
theorem zone_matrix_limit.tab1 : rtab .any (opsOf Try.f66 1) = zone_matrix_limit.T1 := by kernel_rfl
theorem zone_matrix_limit.bits1 : waitsOk zone_matrix_limit.T1.2 zone_matrix_limit.B1 = true := by kernel_rfl
set_option maxHeartbeats 8000000 in
set_option maxRecDepth 100000 in
theorem limit_calls (n i j : Nat) (hn : n ≤ 8) (hi : i ≤ n) (hj : j ≤ n) (c : Int) (g b cap base : Nat) (ok : Nat → Prop) (xs : List Int) (hxs : xs.length = (n + 1) * (n + 1)) (w : World)
   (hbk : w.heap[g]? = some (.cells #[.int .i64 n, .slice (some ⟨b, 0, none⟩) xs.length cap] 87 (0, 0))) (hR : Kd.R (Kd.int .i64) 3 w base ok (.slice (some ⟨b, 0, none⟩) xs.length cap) xs) :
   Calls Try.prog 66 #[.pointer (some ⟨g, 0, none⟩), .int .i64 i, .int .i64 j, .int .i64 c] w fun e w' => e = .returned (.tuple #[]) ∧ Kd.R (Kd.int .i64) 3 w' base ok (.slice (some ⟨b, 0, none⟩) xs.length cap) (xs.set (i * (n + 1) + j) (mn (rd xs ((i * (n + 1) + j : Nat) : Int)) c)) ∧
    w'.heap[g]? = some (.cells #[.int .i64 n, .slice (some ⟨b, 0, none⟩) xs.length cap] 87 (0, 0)) ∧ Kept w w' (fun k => k = b) ∧ Below b w w' := by
 obtain ⟨p, hp⟩ : ∃ p : Nat, p = i * (n + 1) + j := ⟨_, rfl⟩
 have hpl : p < xs.length := by
   rw [hxs, hp]
   exact place_lt hi hj
 rw [← hp]
 have hp0 : (0 : Int) ≤ (p : Int) := Int.natCast_nonneg _
 have hp1 : (p : Int) < (xs.length : Int) := Int.ofNat_lt.2 hpl
 have HP := Aside0.mk hp
 have HLT := Aside0.mk (Nat.le_of_lt (Kd.R_lt hR b rfl))
 have HR := Aside0.mk hR
 have BK := Aside0.mk hbk
 have HB := Aside0.mk (Below.refl w.heap.size w)
 have HW := Aside0.mk (Below.refl b w)
 have HK := Aside0.mk (Kept.of_below (Below.refl w.heap.size w) (fun k => k = b))
 have HCap : Aside0 (xs.length ≤ cap) := ⟨(Kd.R_reads' hR).2.1⟩
 clear hR hbk hp hxs hpl
 go_enter Try.func66, Try.ntmps66
 go_wp2_with ((with_reducible refine gate_callee (f := 74) rfl ?_); refine goesL_ (some 12) rfl rfl Try.func74 (by kernel_rfl) rfl #[.pointer (some ⟨g, 0, none⟩), .int .i64 i, .int .i64 j] rfl (by (try simp only [List.map_toArray, List.map_cons, List.map_nil]); first | done | rfl) ?_; (with_reducible refine (mat_at n i j hn hi hj g b xs.length cap p HP.out _ BK.out).mono ?_); rintro e w5 ⟨rfl, hb⟩; refine ⟨_, rfl, ?_⟩; have n_ := a_ (Aside0.mk (Kd.R_below HR.out hb)) (a_ (Aside0.mk (blk_below BK.out hb)) (a_ (Aside0.mk (Kept.below HK.out hb)) (Aside0.mk (below_then HW.out HLT.out hb)))); clear HR BK HK HW hb HB; obtain ⟨HR, BK, HK, HW⟩ := n_)
 have n_ := a_ (Aside0.mk (Kd.R_drew HR.out)) (a_ (Aside0.mk (blk_drew BK.out)) (a_ (Aside0.mk (Kept.drew HK.out)) (Aside0.mk HW.out.drew)))
 clear HR BK HK HW
 obtain ⟨HR, BK, HK, HW⟩ := n_
 obtain ⟨hx13, hf13⟩ := Kd.R_celln 0 HR.out (p : Int) hp0 hp1
 have HPut := Kd.R_putn HR.out (p : Int) (mn (rd xs (p : Int)) c)
 rw [Int.toNat_natCast] at hx13 hf13 HPut
 have HX := Aside0.mk hx13
 have HQ := Aside0.mk HPut
 clear HPut
 refine start_ (n := 16) (S := fun w' => w'.cell? ⟨g, 0, none⟩ = some (.int .i64 n) ∧ w'.cell? ⟨g, 1, none⟩ = some (.slice (some ⟨b, 0, none⟩) xs.length cap) ∧ w'.cell? ⟨b, p, none⟩ = some (.int .i64 (rd xs (p : Int)))) (ds := [15]) #[false, false, false, false, false, false, false, false, false, false, false, false, false, false, false, false] (by kernel_rfl) rfl rfl ⟨(blk_cell BK.out 0).trans rfl, (blk_cell BK.out 1).trans rfl, HX.out⟩ (fun hHeld => ?_); refine with_tabW zone_matrix_limit.tab1 zone_matrix_limit.bits1 (fun HT_ HW_ => ?_)
 generalize hwd_ : w5.drew = wd at HR BK HK HW HX HQ hx13 hf13 hHeld ⊢
 clear hwd_
 refine pu_ 0 (some 13) ?_
 refine pu_ 1 (some 14) ?_
 refine pu_ 2 (some 15) ?_
 refine pu_ 4 (some 17) ?_
 refine pu_ 5 (some 18) ?_
 refine pu_ 6 (some 19) ?_
 refine pu_ 7 (some 20) ?_
 refine pu_ 9 (some 22) ?_
 refine pu_ 12 (some 25) ?_
 refine take_ (i := 3) (N := some 16) (v := ?_) (a' := ?_) #[true, true, true, true, true, true, true, true, false, true, false, false, true, false, false, false] rfl rfl (take_ofW HT_.out HW_.out (by kernel_rfl)) (fun _ _ _ h => h) (Or.inl ⟨by rfl, ?_⟩) hHeld ?_ ?_
 rotate_left
 · rintro w' ⟨s0, s1, s2⟩
   go_simp
   with_reducible rfl
 rotate_left
 · exact AP_
 refine take_ (i := 8) (N := some 21) (v := ?_) (a' := ?_) #[true, true, true, true, true, true, true, true, true, true, false, false, true, false, false, false] rfl rfl (take_ofW HT_.out HW_.out (by kernel_rfl)) (fun _ _ _ h => h) (Or.inl ⟨by rfl, ?_⟩) hHeld ?_ ?_
 rotate_left
 · rintro w' ⟨s0, s1, s2⟩
   go_simp
   with_reducible rfl
 rotate_left
 · exact AP_
 refine pu_ 10 (some 23) ?_
 refine take_ (i := 11) (N := some 24) (v := ?_) (a' := ?_) #[true, true, true, true, true, true, true, true, true, true, true, true, true, false, false, false] rfl rfl (take_ofW HT_.out HW_.out (by kernel_rfl)) (fun _ _ _ h => h) (Or.inl ⟨by rfl, ?_⟩) hHeld ?_ ?_
 rotate_left
 · rintro w' ⟨s0, s1, s2⟩
   go_simp
   with_reducible rfl
 rotate_left
 · exact AP_
 refine pu_ 13 (some 26) ?_
 refine pu_ 14 (some 27) ?_
 refine last_ (i := 15) (N := none) #[true, true, true, true, true, true, true, true, true, true, true, true, true, true, true, true] rfl rfl (one_of HT_.out (by kernel_rfl)) (by decide) (fun K hK => ?_)
 refine skip_ (w1 := ?_) (by rfl) rfl ?_ ?_
 rotate_left
 · go_simp
   rfl
 refine hK.out _ _ ?_
 clear hK K
 refine done_ (done_of HT_.out (by kernel_rfl)) ?_
 all_goals go_wp2
 all_goals go_end0
 all_goals (first | (have e_ : mn (rd xs (p : Int)) c = c := by (unfold mn; split <;> omega)); rw [e_] at HQ ⊢ | (have e_ : mn (rd xs (p : Int)) c = rd xs (p : Int) := by (unfold mn; split <;> omega)); rw [e_] at HQ ⊢)
 all_goals exact ⟨rfl, HQ.out, blk_far BK.out (by have h_ := Kd.R_ne HR.out BK.out (by decide); intro e_; exact h_ (by rw [e_]; rfl)) _, Kept.setCell HK.out (.inl rfl) _, HW.out.setCell (p := ⟨b, p, none⟩) (Nat.le_refl _) _⟩
end Go.Proofs.Ytgeemdpflcefkaa.Y

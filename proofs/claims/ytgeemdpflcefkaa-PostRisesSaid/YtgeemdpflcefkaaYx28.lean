import Derived.Test.YtgeemdpflcefkaaYx0
import Derived.Test.YtgeemdpflcefkaaYx11
import Derived.Test.YtgeemdpflcefkaaYx12
import Derived.Test.YtgeemdpflcefkaaYx15
import Derived.Test.YtgeemdpflcefkaaYx26
import Derived.Test.YtgeemdpflcefkaaYx27
namespace Go.Proofs.Ytgeemdpflcefkaa.Y
open Go.RowKit Go.Proofs.YtgeemdpflcefkaaW.PrintWords Go.Proofs.YtgeemdpflcefkaaW.PrintLast Go.Proofs.YtgeemdpflcefkaaW.PrintMore
attribute [local go_sem] max2_int min2_int max_two min_two max_three min_three max_four min_four   -- for this text's walks alone
set_option linter.unusedVariables false
set_option linter.unusedSimpArgs false
def post_Post.f (k : Nat) (a0_0 : Int) (l0_1 : List Int) (a1_0 a1_1 a1_2 a1_3 a1_4 : Int) : Option (Int × List Int × Int) := (post_check.f k a0_0 l0_1 a1_0 a1_1 a1_2 a1_3 a1_4).bind fun e => if e = 0 then (if a1_0 = 1 then post_skip.f k a0_0 l0_1 a1_0 a1_1 a1_2 a1_3 a1_4 else if a1_0 = 2 then post_let.f k a0_0 l0_1 a1_0 a1_1 a1_2 a1_3 a1_4 else if a1_0 = 3 then post_take.f k a0_0 l0_1 a1_0 a1_1 a1_2 a1_3 a1_4 else if a1_0 = 4 then post_limit.f k a0_0 l0_1 a1_0 a1_1 a1_2 a1_3 a1_4 else if a1_0 = 5 then post_limit.f k a0_0 l0_1 a1_0 a1_1 a1_2 a1_3 a1_4 else none) else some (0, [], e)
theorem post_Post.mono : ∀ a0 a1 b0 b1 b2 b3 b4 k, LeO (post_Post.f k a0 a1 b0 b1 b2 b3 b4) (post_Post.f (k + 1) a0 a1 b0 b1 b2 b3 b4) := by
 intro a0 a1 b0 b1 b2 b3 b4 k
 unfold post_Post.f
 exact LeO.bind (post_check.mono _ _ _ _ _ _ _ k) (fun e => LeO.ite (LeO.ite (post_skip.mono _ _ _ _ _ _ _ k) (LeO.ite (post_let.mono _ _ _ _ _ _ _ k) (LeO.ite (post_take.mono _ _ _ _ _ _ _ k) (LeO.ite (post_limit.mono _ _ _ _ _ _ _ k) (LeO.ite (post_limit.mono _ _ _ _ _ _ _ k) ((LeO.refl _))))))) (LeO.refl _))
set_option maxRecDepth 100000 in
set_option maxHeartbeats 800000 in
theorem post_Post.ix1 (w : World) : (Instr.index 78 (.agg post_steps.V) (.int .i64 1)).run Try.prog w = .ok (.func (.func 94) #[] #[]) w := by
 unfold post_steps.V
 first | rfl | kernel_rfl | (simp [Instr.index, Try.underlying78]; done)
set_option maxRecDepth 100000 in
set_option maxHeartbeats 800000 in
theorem post_Post.ix2 (w : World) : (Instr.index 78 (.agg post_steps.V) (.int .i64 2)).run Try.prog w = .ok (.func (.func 95) #[] #[]) w := by
 unfold post_steps.V
 first | rfl | kernel_rfl | (simp [Instr.index, Try.underlying78]; done)
set_option maxRecDepth 100000 in
set_option maxHeartbeats 800000 in
theorem post_Post.ix3 (w : World) : (Instr.index 78 (.agg post_steps.V) (.int .i64 3)).run Try.prog w = .ok (.func (.func 96) #[] #[]) w := by
 unfold post_steps.V
 first | rfl | kernel_rfl | (simp [Instr.index, Try.underlying78]; done)
set_option maxRecDepth 100000 in
set_option maxHeartbeats 800000 in
theorem post_Post.ix4 (w : World) : (Instr.index 78 (.agg post_steps.V) (.int .i64 4)).run Try.prog w = .ok (.func (.func 97) #[] #[]) w := by
 unfold post_steps.V
 first | rfl | kernel_rfl | (simp [Instr.index, Try.underlying78]; done)
set_option maxRecDepth 100000 in
set_option maxHeartbeats 800000 in
theorem post_Post.ix5 (w : World) : (Instr.index 78 (.agg post_steps.V) (.int .i64 5)).run Try.prog w = .ok (.func (.func 97) #[] #[]) w := by
 unfold post_steps.V
 first | rfl | kernel_rfl | (simp [Instr.index, Try.underlying78]; done)
def post_Post.T4 : Bool × List (List Nat × List Nat) := (true, [([], []), ([], []), ([1], [1]), ([0, 2], [0, 2]), ([], []), ([], []), ([3, 4, 5, 0], [3, 4, 5]), ([6], [6]), ([6], [6]), ([7, 6, 0, 1, 2, 3, 4, 5, 6, 7, 8], [7]), ([8, 9, 0, 1, 2, 3, 4, 5, 6, 7, 8, 9], [8])])
def post_Post.B4 : List Nat := [0, 0, 2, 7, 0, 0, 63, 127, 127, 511, 1023]
theorem post_Post.tab4 : rtab .any (opsOf Try.f15 4) = post_Post.T4 := by kernel_rfl
theorem post_Post.bits4 : waitsOk post_Post.T4.2 post_Post.B4 = true := by kernel_rfl
set_option maxHeartbeats 8000000 in
set_option maxRecDepth 100000 in
theorem post_Post.calls (k : Nat) (a0_0 : Int) (A0_1 : Option Addr) (c0_1 : Nat) (l0_1 : List Int) (a1_0 a1_1 a1_2 a1_3 a1_4 : Int) (r1 : Int) (r2 : List Int) (r3 : Int) (w : World) (hr0_1 : Kd.C (Kd.int .i64) w A0_1 l0_1.length l0_1) (hc0_1 : l0_1.length ≤ c0_1) (h : post_Post.f k a0_0 l0_1 a1_0 a1_1 a1_2 a1_3 a1_4 = some (r1, r2, r3)) :
   Calls Try.prog 15 #[.agg #[.int .i64 a0_0, .slice A0_1 l0_1.length c0_1], .agg #[.int .i64 a1_0, .int .i64 a1_1, .int .i64 a1_2, .int .i64 a1_3, .int .i64 a1_4]] w fun e w' => ∃ v1_ : Value, e = .returned (.tuple #[.agg #[.int .i64 r1, v1_], .int .i64 r3]) ∧ Kd.R (Kd.int .i64) 3 w' w.heap.size (fun _ => True) v1_ r2 ∧ Below w.heap.size w w' := by
 have hu24 := Try.underlying24
 have hu26 := Try.underlying26
 have hu78 := Try.underlying78
 have HC := Aside0.mk hr0_1
 have HC0 := Aside0.mk hc0_1
 have HB := Aside0.mk (Below.refl w.heap.size w)
 clear hr0_1 hc0_1
 obtain ⟨e, he, h⟩ := Option.bind_eq_some_iff.1 h
 have HE := Aside0.mk he
 clear he
 by_cases c0 : e = 0
 rotate_left
 · rw [if_neg c0] at h
   obtain ⟨rfl, rfl, rfl⟩ : 0 = r1 ∧ [] = r2 ∧ e = r3 := by simpa using h
   clear h
   have c0b0 : (e == 0) = false := beq_eq_false_iff_ne.mpr c0
   have c0b1 : (e != 0) = true := bne_iff_ne.mpr c0
   clear c0
   go_enter Try.func15, Try.ntmps15
   go_wp2_with (first | ((with_reducible refine gate_dst (N := 2) rfl ?_); refine bx_ (N := 2) (cs := #[.int .i64 a0_0, .slice A0_1 l0_1.length c0_1]) (t := 24) ?_; intro gz hg w3 hbox hb; have n_ := a_ (bs_ HB hb) (Aside0.mk hbox); clear HB hbox hb hg; obtain ⟨HB, BZ⟩ := n_) | ((with_reducible refine gate_dst (N := 3) rfl ?_); refine bx_ (N := 3) (cs := #[.int .i64 a1_0, .int .i64 a1_1, .int .i64 a1_2, .int .i64 a1_3, .int .i64 a1_4]) (t := 26) ?_; intro gs hg w4 hbox hb; have n_ := a_ (bs_ HB hb) (a_ (bb_ BZ hb) (Aside0.mk hbox)); clear HB BZ hbox hb hg; obtain ⟨HB, BZ, BS⟩ := n_) | ((with_reducible refine gate_dst (N := 4) rfl ?_); refine bx_ (N := 4) (cs := #[.int .i64 0, .slice none 0 0]) (t := 24) ?_; intro gr hg w5 hbox hb; have n_ := a_ (bs_ HB hb) (a_ (bb_ BZ hb) (a_ (bb_ BS hb) (a_ (Aside0.mk hbox) (a_ (gs_ HB hg) (a_ (nl_ BZ hg) (nl_ BS hg)))))); clear HB BZ BS hbox hb hg; obtain ⟨HB, BZ, BS, BR, GR, NZ, NS⟩ := n_; have hz0 : w5.cell? ⟨gz, 0, none⟩ = some (.int .i64 a0_0) := (blk_cell BZ.out 0).trans rfl; have hz1 : w5.cell? ⟨gz, 1, none⟩ = some (.slice A0_1 l0_1.length c0_1) := (blk_cell BZ.out 1).trans rfl; have hs0 : w5.cell? ⟨gs, 0, none⟩ = some (.int .i64 a1_0) := (blk_cell BS.out 0).trans rfl; have hs1 : w5.cell? ⟨gs, 1, none⟩ = some (.int .i64 a1_1) := (blk_cell BS.out 1).trans rfl; have hs2 : w5.cell? ⟨gs, 2, none⟩ = some (.int .i64 a1_2) := (blk_cell BS.out 2).trans rfl; have hs3 : w5.cell? ⟨gs, 3, none⟩ = some (.int .i64 a1_3) := (blk_cell BS.out 3).trans rfl; have hs4 : w5.cell? ⟨gs, 4, none⟩ = some (.int .i64 a1_4) := (blk_cell BS.out 4).trans rfl) | ((with_reducible refine gate_callee (f := 61) rfl ?_); refine goesL_ (some 9) rfl rfl Try.func61 (by kernel_rfl) rfl #[.agg #[.int .i64 a0_0, .slice A0_1 l0_1.length c0_1], .agg #[.int .i64 a1_0, .int .i64 a1_1, .int .i64 a1_2, .int .i64 a1_3, .int .i64 a1_4]] rfl MP_ ?_; (with_reducible refine (post_check.calls k a0_0 A0_1 c0_1 l0_1 a1_0 a1_1 a1_2 a1_3 a1_4 e _ (Kd.C_below HC.out HB.out) HC0.out HE.out).mono ?_); rintro e_ w6 ⟨rfl, hb⟩; refine ⟨_, rfl, ?_⟩; (try clear hz0 hz1 hs0 hs1 hs2 hs3 hs4); have n_ := a_ (bs_ HB hb) (a_ (bb_ BZ hb) (a_ (bb_ BS hb) (bb_ BR hb))); clear HB BZ BS BR hb; obtain ⟨HB, BZ, BS, BR⟩ := n_; have hr0 : w6.cell? ⟨gr, 0, none⟩ = some (.int .i64 0) := (blk_cell BR.out 0).trans rfl; have hr1 : w6.cell? ⟨gr, 1, none⟩ = some (.slice none 0 0) := (blk_cell BR.out 1).trans rfl; have hf0 := blk_frozen BR.out 0; have hf1 := blk_frozen BR.out 1))
   refine bodyPost_ret (results_ct rfl _ _ gr 24 #[.int .i64 0, .slice none 0 0] (0, 0) _ rfl (by (with_reducible repeat (first | refine blk_alloc ?_ _)); refine blk_put (cs := #[.int .i64 0, .slice none 0 0]) ?_ 1 _ rfl; refine blk_put (cs := #[.int .i64 0, .slice none 0 0]) ?_ 0 _ rfl; exact BR.out) Try.underlying24 rfl (by kernel_rfl)) rfl ?_
   exact ⟨_, rfl, Kd.R_nil _ _ _ _ _, below_set (below_set HB.out GR.out) GR.out⟩
 · subst c0
   rw [if_pos rfl] at h
   by_cases c1 : a1_0 = 1
   · subst c1
     rw [if_pos rfl] at h
     have HF := Aside0.mk h
     clear h
     go_enter Try.func15, Try.ntmps15
     go_wp2_with (first | ((with_reducible refine gate_dst (N := 2) rfl ?_); refine bx_ (N := 2) (cs := #[.int .i64 a0_0, .slice A0_1 l0_1.length c0_1]) (t := 24) ?_; intro gz hg w3 hbox hb; have n_ := a_ (bs_ HB hb) (Aside0.mk hbox); clear HB hbox hb hg; obtain ⟨HB, BZ⟩ := n_) | ((with_reducible refine gate_dst (N := 3) rfl ?_); refine bx_ (N := 3) (cs := #[.int .i64 1, .int .i64 a1_1, .int .i64 a1_2, .int .i64 a1_3, .int .i64 a1_4]) (t := 26) ?_; intro gs hg w4 hbox hb; have n_ := a_ (bs_ HB hb) (a_ (bb_ BZ hb) (Aside0.mk hbox)); clear HB BZ hbox hb hg; obtain ⟨HB, BZ, BS⟩ := n_) | ((with_reducible refine gate_dst (N := 4) rfl ?_); refine bx_ (N := 4) (cs := #[.int .i64 0, .slice none 0 0]) (t := 24) ?_; intro gr hg w5 hbox hb; have n_ := a_ (bs_ HB hb) (a_ (bb_ BZ hb) (a_ (bb_ BS hb) (a_ (Aside0.mk hbox) (a_ (gs_ HB hg) (a_ (nl_ BZ hg) (nl_ BS hg)))))); clear HB BZ BS hbox hb hg; obtain ⟨HB, BZ, BS, BR, GR, NZ, NS⟩ := n_; have hz0 : w5.cell? ⟨gz, 0, none⟩ = some (.int .i64 a0_0) := (blk_cell BZ.out 0).trans rfl; have hz1 : w5.cell? ⟨gz, 1, none⟩ = some (.slice A0_1 l0_1.length c0_1) := (blk_cell BZ.out 1).trans rfl; have hs0 : w5.cell? ⟨gs, 0, none⟩ = some (.int .i64 1) := (blk_cell BS.out 0).trans rfl; have hs1 : w5.cell? ⟨gs, 1, none⟩ = some (.int .i64 a1_1) := (blk_cell BS.out 1).trans rfl; have hs2 : w5.cell? ⟨gs, 2, none⟩ = some (.int .i64 a1_2) := (blk_cell BS.out 2).trans rfl; have hs3 : w5.cell? ⟨gs, 3, none⟩ = some (.int .i64 a1_3) := (blk_cell BS.out 3).trans rfl; have hs4 : w5.cell? ⟨gs, 4, none⟩ = some (.int .i64 a1_4) := (blk_cell BS.out 4).trans rfl) | ((with_reducible refine gate_callee (f := 61) rfl ?_); refine goesL_ (some 9) rfl rfl Try.func61 (by kernel_rfl) rfl #[.agg #[.int .i64 a0_0, .slice A0_1 l0_1.length c0_1], .agg #[.int .i64 1, .int .i64 a1_1, .int .i64 a1_2, .int .i64 a1_3, .int .i64 a1_4]] rfl MP_ ?_; (with_reducible refine (post_check.calls k a0_0 A0_1 c0_1 l0_1 1 a1_1 a1_2 a1_3 a1_4 0 _ (Kd.C_below HC.out HB.out) HC0.out HE.out).mono ?_); rintro e_ w6 ⟨rfl, hb⟩; refine ⟨_, rfl, ?_⟩; (try clear hz0 hz1 hs0 hs1 hs2 hs3 hs4); have n_ := a_ (bs_ HB hb) (a_ (bb_ BZ hb) (a_ (bb_ BS hb) (bb_ BR hb))); clear HB BZ BS BR hb; obtain ⟨HB, BZ, BS, BR⟩ := n_; have hr0 : w6.cell? ⟨gr, 0, none⟩ = some (.int .i64 0) := (blk_cell BR.out 0).trans rfl; have hr1 : w6.cell? ⟨gr, 1, none⟩ = some (.slice none 0 0) := (blk_cell BR.out 1).trans rfl; have hf0 := blk_frozen BR.out 0; have hf1 := blk_frozen BR.out 1))
     clear hr0 hr1 hf0 hf1
     have n_ := a_ (Aside0.mk HB.out.drew) (a_ (Aside0.mk (blk_drew BZ.out)) (a_ (Aside0.mk (blk_drew BS.out)) (Aside0.mk (blk_drew BR.out))))
     clear HB BZ BS BR
     obtain ⟨HB, BZ, BS, BR⟩ := n_
     refine start_ (n := 11) (S := fun w' => w'.cell? ⟨gz, 0, none⟩ = some (.int .i64 a0_0) ∧ w'.cell? ⟨gz, 1, none⟩ = some (.slice A0_1 l0_1.length c0_1) ∧ w'.cell? ⟨gs, 0, none⟩ = some (.int .i64 1) ∧ w'.cell? ⟨gs, 1, none⟩ = some (.int .i64 a1_1) ∧ w'.cell? ⟨gs, 2, none⟩ = some (.int .i64 a1_2) ∧ w'.cell? ⟨gs, 3, none⟩ = some (.int .i64 a1_3) ∧ w'.cell? ⟨gs, 4, none⟩ = some (.int .i64 a1_4)) (ds := []) #[false, false, false, false, false, false, false, false, false, false, false] (by kernel_rfl) rfl rfl ⟨(blk_cell BZ.out 0).trans rfl, (blk_cell BZ.out 1).trans rfl, (blk_cell BS.out 0).trans rfl, (blk_cell BS.out 1).trans rfl, (blk_cell BS.out 2).trans rfl, (blk_cell BS.out 3).trans rfl, (blk_cell BS.out 4).trans rfl⟩ (fun hHeld => ?_); refine with_tabW post_Post.tab4 post_Post.bits4 (fun HT_ HW_ => ?_)
     generalize hwd_ : w6.drew = wd at HB BZ BS BR hHeld ⊢
     clear hwd_
     refine pu_ 1 (some 15) ?_
     refine take_ (i := 2) (N := some 16) (v := ?_) (a' := ?_) #[false, true, true, false, false, false, false, false, false, false, false] rfl rfl (take_ofW HT_.out HW_.out (by kernel_rfl)) (fun _ _ _ h => h) (Or.inl ⟨by rfl, ?_⟩) hHeld ?_ ?_
     rotate_left
     · rintro w' ⟨s0, s1, s2, s3, s4, s5, s6⟩
       go_simp
       with_reducible rfl
     rotate_left
     · exact AP_
     refine take_ (i := 4) (N := some 18) (v := ?_) (a' := ?_) #[false, true, true, false, true, false, false, false, false, false, false] rfl rfl (take_ofW HT_.out HW_.out (by kernel_rfl)) (fun _ _ _ h => h) (Or.inl ⟨by rfl, ?_⟩) hHeld ?_ ?_
     rotate_left
     · rintro w' ⟨s0, s1, s2, s3, s4, s5, s6⟩
       go_simp
       with_reducible rfl
     rotate_left
     · exact AP_
     refine take_ (i := 5) (N := some 19) (v := ?_) (a' := ?_) #[false, true, true, false, true, true, false, false, false, false, false] rfl rfl (take_ofW HT_.out HW_.out (by kernel_rfl)) (fun _ _ _ h => h) (Or.inl ⟨by rfl, ?_⟩) hHeld ?_ ?_
     rotate_left
     · rintro w' ⟨s0, s1, s2, s3, s4, s5, s6⟩
       go_simp
       with_reducible rfl
     rotate_left
     · exact AP_
     refine on_ 0 (some 14) (fun K hK => ?_)
     refine goes_ Try.func62 (by kernel_rfl) rfl #[] (by rfl) rfl rfl MP_ ?_
     with_reducible refine (post_steps.calls _).mono ?_
     rintro e_ w7 ⟨rfl, hb⟩
     refine ⟨_, rfl, ?_⟩
     have n_ := a_ (bs_ HB hb) (a_ (bb_ BZ hb) (a_ (bb_ BS hb) (bb_ BR hb)))
     clear HB BZ BS BR hb
     obtain ⟨HB, BZ, BS, BR⟩ := n_
     refine hK.out _ _ ⟨(blk_cell BZ.out 0).trans rfl, (blk_cell BZ.out 1).trans rfl, (blk_cell BS.out 0).trans rfl, (blk_cell BS.out 1).trans rfl, (blk_cell BS.out 2).trans rfl, (blk_cell BS.out 3).trans rfl, (blk_cell BS.out 4).trans rfl⟩ (fun hHeld => ?_)
     clear hK K
     refine nm_ ?_
     have hix := post_Post.ix1
     unfold post_steps.V at hix ⊢
     refine pu_ 3 (some 17) ?_
     clear hix
     refine on_ 6 (some 20) (fun K hK => ?_)
     refine goesT_ Try.func94 (by kernel_rfl) rfl #[.agg #[.int .i64 a0_0, .slice A0_1 l0_1.length c0_1], .agg #[.int .i64 1, .int .i64 a1_1, .int .i64 a1_2, .int .i64 a1_3, .int .i64 a1_4]] (by rfl) rfl rfl rfl MP_ ?_
     with_reducible refine (post_skip.calls k a0_0 A0_1 c0_1 l0_1 1 a1_1 a1_2 a1_3 a1_4 r1 r2 r3 _ (Kd.C_below HC.out HB.out) HC0.out HF.out).mono ?_
     rintro e_ w8 ⟨v1_, rfl, ho, hb⟩
     refine ⟨_, rfl, ?_⟩
     have HO := Aside0.mk (Kd.R_lower ho (below_size HB.out))
     clear ho
     have n_ := a_ (bs_ HB hb) (a_ (bb_ BZ hb) (a_ (bb_ BS hb) (bb_ BR hb)))
     clear HB BZ BS BR hb
     obtain ⟨HB, BZ, BS, BR⟩ := n_
     obtain ⟨A1, c1, ev_⟩ := Kd.R_slice HO.out
     subst ev_
     refine hK.out _ _ ⟨(blk_cell BZ.out 0).trans rfl, (blk_cell BZ.out 1).trans rfl, (blk_cell BS.out 0).trans rfl, (blk_cell BS.out 1).trans rfl, (blk_cell BS.out 2).trans rfl, (blk_cell BS.out 3).trans rfl, (blk_cell BS.out 4).trans rfl⟩ (fun hHeld => ?_)
     clear hK K
     refine nm_ ?_
     refine pu_ 7 (some 21) ?_
     refine pu_ 8 (some 22) ?_
     have hr0 : w8.cell? ⟨gr, 0, none⟩ = some (.int .i64 0) := (blk_cell BR.out 0).trans rfl
     have hr1 : w8.cell? ⟨gr, 1, none⟩ = some (.slice none 0 0) := (blk_cell BR.out 1).trans rfl
     have hf0 := blk_frozen BR.out 0
     have hf1 := blk_frozen BR.out 1
     refine on_ 9 (none) (fun K hK => ?_)
     refine skip_ (w1 := ?_) (by rfl) rfl ?_ ?_
     rotate_left
     · go_simp
       rfl
     refine hK.out _ _ ⟨(blk_cell (blk_far (blk_far BZ.out NZ.out _) NZ.out _) 0).trans rfl, (blk_cell (blk_far (blk_far BZ.out NZ.out _) NZ.out _) 1).trans rfl, (blk_cell (blk_far (blk_far BS.out NS.out _) NS.out _) 0).trans rfl, (blk_cell (blk_far (blk_far BS.out NS.out _) NS.out _) 1).trans rfl, (blk_cell (blk_far (blk_far BS.out NS.out _) NS.out _) 2).trans rfl, (blk_cell (blk_far (blk_far BS.out NS.out _) NS.out _) 3).trans rfl, (blk_cell (blk_far (blk_far BS.out NS.out _) NS.out _) 4).trans rfl⟩ (fun hHeld => ?_)
     clear hK K
     refine pu_ 10 (some 5) ?_
     refine done_ (done_of HT_.out (by kernel_rfl)) ?_
     go_wp2
     refine bodyPost_ret (results_ct rfl _ _ gr 24 #[.int .i64 r1, .slice A1 r2.length c1] (0, 0) _ rfl (by (with_reducible repeat (first | refine blk_alloc ?_ _)); refine blk_put (cs := #[.int .i64 r1, .slice none 0 0]) ?_ 1 _ rfl; refine blk_put (cs := #[.int .i64 0, .slice none 0 0]) ?_ 0 _ rfl; exact BR.out) Try.underlying24 rfl (by kernel_rfl)) rfl ?_
     exact ⟨_, rfl, rf2_ HO BR _ _, below_set (below_set HB.out GR.out) GR.out⟩
   rw [if_neg c1] at h
   by_cases c2 : a1_0 = 2
   · subst c2
     rw [if_pos rfl] at h
     have HF := Aside0.mk h
     clear h
     go_enter Try.func15, Try.ntmps15
     go_wp2_with (first | ((with_reducible refine gate_dst (N := 2) rfl ?_); refine bx_ (N := 2) (cs := #[.int .i64 a0_0, .slice A0_1 l0_1.length c0_1]) (t := 24) ?_; intro gz hg w3 hbox hb; have n_ := a_ (bs_ HB hb) (Aside0.mk hbox); clear HB hbox hb hg; obtain ⟨HB, BZ⟩ := n_) | ((with_reducible refine gate_dst (N := 3) rfl ?_); refine bx_ (N := 3) (cs := #[.int .i64 2, .int .i64 a1_1, .int .i64 a1_2, .int .i64 a1_3, .int .i64 a1_4]) (t := 26) ?_; intro gs hg w4 hbox hb; have n_ := a_ (bs_ HB hb) (a_ (bb_ BZ hb) (Aside0.mk hbox)); clear HB BZ hbox hb hg; obtain ⟨HB, BZ, BS⟩ := n_) | ((with_reducible refine gate_dst (N := 4) rfl ?_); refine bx_ (N := 4) (cs := #[.int .i64 0, .slice none 0 0]) (t := 24) ?_; intro gr hg w5 hbox hb; have n_ := a_ (bs_ HB hb) (a_ (bb_ BZ hb) (a_ (bb_ BS hb) (a_ (Aside0.mk hbox) (a_ (gs_ HB hg) (a_ (nl_ BZ hg) (nl_ BS hg)))))); clear HB BZ BS hbox hb hg; obtain ⟨HB, BZ, BS, BR, GR, NZ, NS⟩ := n_; have hz0 : w5.cell? ⟨gz, 0, none⟩ = some (.int .i64 a0_0) := (blk_cell BZ.out 0).trans rfl; have hz1 : w5.cell? ⟨gz, 1, none⟩ = some (.slice A0_1 l0_1.length c0_1) := (blk_cell BZ.out 1).trans rfl; have hs0 : w5.cell? ⟨gs, 0, none⟩ = some (.int .i64 2) := (blk_cell BS.out 0).trans rfl; have hs1 : w5.cell? ⟨gs, 1, none⟩ = some (.int .i64 a1_1) := (blk_cell BS.out 1).trans rfl; have hs2 : w5.cell? ⟨gs, 2, none⟩ = some (.int .i64 a1_2) := (blk_cell BS.out 2).trans rfl; have hs3 : w5.cell? ⟨gs, 3, none⟩ = some (.int .i64 a1_3) := (blk_cell BS.out 3).trans rfl; have hs4 : w5.cell? ⟨gs, 4, none⟩ = some (.int .i64 a1_4) := (blk_cell BS.out 4).trans rfl) | ((with_reducible refine gate_callee (f := 61) rfl ?_); refine goesL_ (some 9) rfl rfl Try.func61 (by kernel_rfl) rfl #[.agg #[.int .i64 a0_0, .slice A0_1 l0_1.length c0_1], .agg #[.int .i64 2, .int .i64 a1_1, .int .i64 a1_2, .int .i64 a1_3, .int .i64 a1_4]] rfl MP_ ?_; (with_reducible refine (post_check.calls k a0_0 A0_1 c0_1 l0_1 2 a1_1 a1_2 a1_3 a1_4 0 _ (Kd.C_below HC.out HB.out) HC0.out HE.out).mono ?_); rintro e_ w6 ⟨rfl, hb⟩; refine ⟨_, rfl, ?_⟩; (try clear hz0 hz1 hs0 hs1 hs2 hs3 hs4); have n_ := a_ (bs_ HB hb) (a_ (bb_ BZ hb) (a_ (bb_ BS hb) (bb_ BR hb))); clear HB BZ BS BR hb; obtain ⟨HB, BZ, BS, BR⟩ := n_; have hr0 : w6.cell? ⟨gr, 0, none⟩ = some (.int .i64 0) := (blk_cell BR.out 0).trans rfl; have hr1 : w6.cell? ⟨gr, 1, none⟩ = some (.slice none 0 0) := (blk_cell BR.out 1).trans rfl; have hf0 := blk_frozen BR.out 0; have hf1 := blk_frozen BR.out 1))
     clear hr0 hr1 hf0 hf1
     have n_ := a_ (Aside0.mk HB.out.drew) (a_ (Aside0.mk (blk_drew BZ.out)) (a_ (Aside0.mk (blk_drew BS.out)) (Aside0.mk (blk_drew BR.out))))
     clear HB BZ BS BR
     obtain ⟨HB, BZ, BS, BR⟩ := n_
     refine start_ (n := 11) (S := fun w' => w'.cell? ⟨gz, 0, none⟩ = some (.int .i64 a0_0) ∧ w'.cell? ⟨gz, 1, none⟩ = some (.slice A0_1 l0_1.length c0_1) ∧ w'.cell? ⟨gs, 0, none⟩ = some (.int .i64 2) ∧ w'.cell? ⟨gs, 1, none⟩ = some (.int .i64 a1_1) ∧ w'.cell? ⟨gs, 2, none⟩ = some (.int .i64 a1_2) ∧ w'.cell? ⟨gs, 3, none⟩ = some (.int .i64 a1_3) ∧ w'.cell? ⟨gs, 4, none⟩ = some (.int .i64 a1_4)) (ds := []) #[false, false, false, false, false, false, false, false, false, false, false] (by kernel_rfl) rfl rfl ⟨(blk_cell BZ.out 0).trans rfl, (blk_cell BZ.out 1).trans rfl, (blk_cell BS.out 0).trans rfl, (blk_cell BS.out 1).trans rfl, (blk_cell BS.out 2).trans rfl, (blk_cell BS.out 3).trans rfl, (blk_cell BS.out 4).trans rfl⟩ (fun hHeld => ?_); refine with_tabW post_Post.tab4 post_Post.bits4 (fun HT_ HW_ => ?_)
     generalize hwd_ : w6.drew = wd at HB BZ BS BR hHeld ⊢
     clear hwd_
     refine pu_ 1 (some 15) ?_
     refine take_ (i := 2) (N := some 16) (v := ?_) (a' := ?_) #[false, true, true, false, false, false, false, false, false, false, false] rfl rfl (take_ofW HT_.out HW_.out (by kernel_rfl)) (fun _ _ _ h => h) (Or.inl ⟨by rfl, ?_⟩) hHeld ?_ ?_
     rotate_left
     · rintro w' ⟨s0, s1, s2, s3, s4, s5, s6⟩
       go_simp
       with_reducible rfl
     rotate_left
     · exact AP_
     refine take_ (i := 4) (N := some 18) (v := ?_) (a' := ?_) #[false, true, true, false, true, false, false, false, false, false, false] rfl rfl (take_ofW HT_.out HW_.out (by kernel_rfl)) (fun _ _ _ h => h) (Or.inl ⟨by rfl, ?_⟩) hHeld ?_ ?_
     rotate_left
     · rintro w' ⟨s0, s1, s2, s3, s4, s5, s6⟩
       go_simp
       with_reducible rfl
     rotate_left
     · exact AP_
     refine take_ (i := 5) (N := some 19) (v := ?_) (a' := ?_) #[false, true, true, false, true, true, false, false, false, false, false] rfl rfl (take_ofW HT_.out HW_.out (by kernel_rfl)) (fun _ _ _ h => h) (Or.inl ⟨by rfl, ?_⟩) hHeld ?_ ?_
     rotate_left
     · rintro w' ⟨s0, s1, s2, s3, s4, s5, s6⟩
       go_simp
       with_reducible rfl
     rotate_left
     · exact AP_
     refine on_ 0 (some 14) (fun K hK => ?_)
     refine goes_ Try.func62 (by kernel_rfl) rfl #[] (by rfl) rfl rfl MP_ ?_
     with_reducible refine (post_steps.calls _).mono ?_
     rintro e_ w7 ⟨rfl, hb⟩
     refine ⟨_, rfl, ?_⟩
     have n_ := a_ (bs_ HB hb) (a_ (bb_ BZ hb) (a_ (bb_ BS hb) (bb_ BR hb)))
     clear HB BZ BS BR hb
     obtain ⟨HB, BZ, BS, BR⟩ := n_
     refine hK.out _ _ ⟨(blk_cell BZ.out 0).trans rfl, (blk_cell BZ.out 1).trans rfl, (blk_cell BS.out 0).trans rfl, (blk_cell BS.out 1).trans rfl, (blk_cell BS.out 2).trans rfl, (blk_cell BS.out 3).trans rfl, (blk_cell BS.out 4).trans rfl⟩ (fun hHeld => ?_)
     clear hK K
     refine nm_ ?_
     have hix := post_Post.ix2
     unfold post_steps.V at hix ⊢
     refine pu_ 3 (some 17) ?_
     clear hix
     refine on_ 6 (some 20) (fun K hK => ?_)
     refine goesT_ Try.func95 (by kernel_rfl) rfl #[.agg #[.int .i64 a0_0, .slice A0_1 l0_1.length c0_1], .agg #[.int .i64 2, .int .i64 a1_1, .int .i64 a1_2, .int .i64 a1_3, .int .i64 a1_4]] (by rfl) rfl rfl rfl MP_ ?_
     with_reducible refine (post_let.calls k a0_0 A0_1 c0_1 l0_1 2 a1_1 a1_2 a1_3 a1_4 r1 r2 r3 _ (Kd.C_below HC.out HB.out) HC0.out HF.out).mono ?_
     rintro e_ w8 ⟨v1_, rfl, ho, hb⟩
     refine ⟨_, rfl, ?_⟩
     have HO := Aside0.mk (Kd.R_lower ho (below_size HB.out))
     clear ho
     have n_ := a_ (bs_ HB hb) (a_ (bb_ BZ hb) (a_ (bb_ BS hb) (bb_ BR hb)))
     clear HB BZ BS BR hb
     obtain ⟨HB, BZ, BS, BR⟩ := n_
     obtain ⟨A1, c1, ev_⟩ := Kd.R_slice HO.out
     subst ev_
     refine hK.out _ _ ⟨(blk_cell BZ.out 0).trans rfl, (blk_cell BZ.out 1).trans rfl, (blk_cell BS.out 0).trans rfl, (blk_cell BS.out 1).trans rfl, (blk_cell BS.out 2).trans rfl, (blk_cell BS.out 3).trans rfl, (blk_cell BS.out 4).trans rfl⟩ (fun hHeld => ?_)
     clear hK K
     refine nm_ ?_
     refine pu_ 7 (some 21) ?_
     refine pu_ 8 (some 22) ?_
     have hr0 : w8.cell? ⟨gr, 0, none⟩ = some (.int .i64 0) := (blk_cell BR.out 0).trans rfl
     have hr1 : w8.cell? ⟨gr, 1, none⟩ = some (.slice none 0 0) := (blk_cell BR.out 1).trans rfl
     have hf0 := blk_frozen BR.out 0
     have hf1 := blk_frozen BR.out 1
     refine on_ 9 (none) (fun K hK => ?_)
     refine skip_ (w1 := ?_) (by rfl) rfl ?_ ?_
     rotate_left
     · go_simp
       rfl
     refine hK.out _ _ ⟨(blk_cell (blk_far (blk_far BZ.out NZ.out _) NZ.out _) 0).trans rfl, (blk_cell (blk_far (blk_far BZ.out NZ.out _) NZ.out _) 1).trans rfl, (blk_cell (blk_far (blk_far BS.out NS.out _) NS.out _) 0).trans rfl, (blk_cell (blk_far (blk_far BS.out NS.out _) NS.out _) 1).trans rfl, (blk_cell (blk_far (blk_far BS.out NS.out _) NS.out _) 2).trans rfl, (blk_cell (blk_far (blk_far BS.out NS.out _) NS.out _) 3).trans rfl, (blk_cell (blk_far (blk_far BS.out NS.out _) NS.out _) 4).trans rfl⟩ (fun hHeld => ?_)
     clear hK K
     refine pu_ 10 (some 5) ?_
     refine done_ (done_of HT_.out (by kernel_rfl)) ?_
     go_wp2
     refine bodyPost_ret (results_ct rfl _ _ gr 24 #[.int .i64 r1, .slice A1 r2.length c1] (0, 0) _ rfl (by (with_reducible repeat (first | refine blk_alloc ?_ _)); refine blk_put (cs := #[.int .i64 r1, .slice none 0 0]) ?_ 1 _ rfl; refine blk_put (cs := #[.int .i64 0, .slice none 0 0]) ?_ 0 _ rfl; exact BR.out) Try.underlying24 rfl (by kernel_rfl)) rfl ?_
     exact ⟨_, rfl, rf2_ HO BR _ _, below_set (below_set HB.out GR.out) GR.out⟩
   rw [if_neg c2] at h
   by_cases c3 : a1_0 = 3
   · subst c3
     rw [if_pos rfl] at h
     have HF := Aside0.mk h
     clear h
     go_enter Try.func15, Try.ntmps15
     go_wp2_with (first | ((with_reducible refine gate_dst (N := 2) rfl ?_); refine bx_ (N := 2) (cs := #[.int .i64 a0_0, .slice A0_1 l0_1.length c0_1]) (t := 24) ?_; intro gz hg w3 hbox hb; have n_ := a_ (bs_ HB hb) (Aside0.mk hbox); clear HB hbox hb hg; obtain ⟨HB, BZ⟩ := n_) | ((with_reducible refine gate_dst (N := 3) rfl ?_); refine bx_ (N := 3) (cs := #[.int .i64 3, .int .i64 a1_1, .int .i64 a1_2, .int .i64 a1_3, .int .i64 a1_4]) (t := 26) ?_; intro gs hg w4 hbox hb; have n_ := a_ (bs_ HB hb) (a_ (bb_ BZ hb) (Aside0.mk hbox)); clear HB BZ hbox hb hg; obtain ⟨HB, BZ, BS⟩ := n_) | ((with_reducible refine gate_dst (N := 4) rfl ?_); refine bx_ (N := 4) (cs := #[.int .i64 0, .slice none 0 0]) (t := 24) ?_; intro gr hg w5 hbox hb; have n_ := a_ (bs_ HB hb) (a_ (bb_ BZ hb) (a_ (bb_ BS hb) (a_ (Aside0.mk hbox) (a_ (gs_ HB hg) (a_ (nl_ BZ hg) (nl_ BS hg)))))); clear HB BZ BS hbox hb hg; obtain ⟨HB, BZ, BS, BR, GR, NZ, NS⟩ := n_; have hz0 : w5.cell? ⟨gz, 0, none⟩ = some (.int .i64 a0_0) := (blk_cell BZ.out 0).trans rfl; have hz1 : w5.cell? ⟨gz, 1, none⟩ = some (.slice A0_1 l0_1.length c0_1) := (blk_cell BZ.out 1).trans rfl; have hs0 : w5.cell? ⟨gs, 0, none⟩ = some (.int .i64 3) := (blk_cell BS.out 0).trans rfl; have hs1 : w5.cell? ⟨gs, 1, none⟩ = some (.int .i64 a1_1) := (blk_cell BS.out 1).trans rfl; have hs2 : w5.cell? ⟨gs, 2, none⟩ = some (.int .i64 a1_2) := (blk_cell BS.out 2).trans rfl; have hs3 : w5.cell? ⟨gs, 3, none⟩ = some (.int .i64 a1_3) := (blk_cell BS.out 3).trans rfl; have hs4 : w5.cell? ⟨gs, 4, none⟩ = some (.int .i64 a1_4) := (blk_cell BS.out 4).trans rfl) | ((with_reducible refine gate_callee (f := 61) rfl ?_); refine goesL_ (some 9) rfl rfl Try.func61 (by kernel_rfl) rfl #[.agg #[.int .i64 a0_0, .slice A0_1 l0_1.length c0_1], .agg #[.int .i64 3, .int .i64 a1_1, .int .i64 a1_2, .int .i64 a1_3, .int .i64 a1_4]] rfl MP_ ?_; (with_reducible refine (post_check.calls k a0_0 A0_1 c0_1 l0_1 3 a1_1 a1_2 a1_3 a1_4 0 _ (Kd.C_below HC.out HB.out) HC0.out HE.out).mono ?_); rintro e_ w6 ⟨rfl, hb⟩; refine ⟨_, rfl, ?_⟩; (try clear hz0 hz1 hs0 hs1 hs2 hs3 hs4); have n_ := a_ (bs_ HB hb) (a_ (bb_ BZ hb) (a_ (bb_ BS hb) (bb_ BR hb))); clear HB BZ BS BR hb; obtain ⟨HB, BZ, BS, BR⟩ := n_; have hr0 : w6.cell? ⟨gr, 0, none⟩ = some (.int .i64 0) := (blk_cell BR.out 0).trans rfl; have hr1 : w6.cell? ⟨gr, 1, none⟩ = some (.slice none 0 0) := (blk_cell BR.out 1).trans rfl; have hf0 := blk_frozen BR.out 0; have hf1 := blk_frozen BR.out 1))
     clear hr0 hr1 hf0 hf1
     have n_ := a_ (Aside0.mk HB.out.drew) (a_ (Aside0.mk (blk_drew BZ.out)) (a_ (Aside0.mk (blk_drew BS.out)) (Aside0.mk (blk_drew BR.out))))
     clear HB BZ BS BR
     obtain ⟨HB, BZ, BS, BR⟩ := n_
     refine start_ (n := 11) (S := fun w' => w'.cell? ⟨gz, 0, none⟩ = some (.int .i64 a0_0) ∧ w'.cell? ⟨gz, 1, none⟩ = some (.slice A0_1 l0_1.length c0_1) ∧ w'.cell? ⟨gs, 0, none⟩ = some (.int .i64 3) ∧ w'.cell? ⟨gs, 1, none⟩ = some (.int .i64 a1_1) ∧ w'.cell? ⟨gs, 2, none⟩ = some (.int .i64 a1_2) ∧ w'.cell? ⟨gs, 3, none⟩ = some (.int .i64 a1_3) ∧ w'.cell? ⟨gs, 4, none⟩ = some (.int .i64 a1_4)) (ds := []) #[false, false, false, false, false, false, false, false, false, false, false] (by kernel_rfl) rfl rfl ⟨(blk_cell BZ.out 0).trans rfl, (blk_cell BZ.out 1).trans rfl, (blk_cell BS.out 0).trans rfl, (blk_cell BS.out 1).trans rfl, (blk_cell BS.out 2).trans rfl, (blk_cell BS.out 3).trans rfl, (blk_cell BS.out 4).trans rfl⟩ (fun hHeld => ?_); refine with_tabW post_Post.tab4 post_Post.bits4 (fun HT_ HW_ => ?_)
     generalize hwd_ : w6.drew = wd at HB BZ BS BR hHeld ⊢
     clear hwd_
     refine pu_ 1 (some 15) ?_
     refine take_ (i := 2) (N := some 16) (v := ?_) (a' := ?_) #[false, true, true, false, false, false, false, false, false, false, false] rfl rfl (take_ofW HT_.out HW_.out (by kernel_rfl)) (fun _ _ _ h => h) (Or.inl ⟨by rfl, ?_⟩) hHeld ?_ ?_
     rotate_left
     · rintro w' ⟨s0, s1, s2, s3, s4, s5, s6⟩
       go_simp
       with_reducible rfl
     rotate_left
     · exact AP_
     refine take_ (i := 4) (N := some 18) (v := ?_) (a' := ?_) #[false, true, true, false, true, false, false, false, false, false, false] rfl rfl (take_ofW HT_.out HW_.out (by kernel_rfl)) (fun _ _ _ h => h) (Or.inl ⟨by rfl, ?_⟩) hHeld ?_ ?_
     rotate_left
     · rintro w' ⟨s0, s1, s2, s3, s4, s5, s6⟩
       go_simp
       with_reducible rfl
     rotate_left
     · exact AP_
     refine take_ (i := 5) (N := some 19) (v := ?_) (a' := ?_) #[false, true, true, false, true, true, false, false, false, false, false] rfl rfl (take_ofW HT_.out HW_.out (by kernel_rfl)) (fun _ _ _ h => h) (Or.inl ⟨by rfl, ?_⟩) hHeld ?_ ?_
     rotate_left
     · rintro w' ⟨s0, s1, s2, s3, s4, s5, s6⟩
       go_simp
       with_reducible rfl
     rotate_left
     · exact AP_
     refine on_ 0 (some 14) (fun K hK => ?_)
     refine goes_ Try.func62 (by kernel_rfl) rfl #[] (by rfl) rfl rfl MP_ ?_
     with_reducible refine (post_steps.calls _).mono ?_
     rintro e_ w7 ⟨rfl, hb⟩
     refine ⟨_, rfl, ?_⟩
     have n_ := a_ (bs_ HB hb) (a_ (bb_ BZ hb) (a_ (bb_ BS hb) (bb_ BR hb)))
     clear HB BZ BS BR hb
     obtain ⟨HB, BZ, BS, BR⟩ := n_
     refine hK.out _ _ ⟨(blk_cell BZ.out 0).trans rfl, (blk_cell BZ.out 1).trans rfl, (blk_cell BS.out 0).trans rfl, (blk_cell BS.out 1).trans rfl, (blk_cell BS.out 2).trans rfl, (blk_cell BS.out 3).trans rfl, (blk_cell BS.out 4).trans rfl⟩ (fun hHeld => ?_)
     clear hK K
     refine nm_ ?_
     have hix := post_Post.ix3
     unfold post_steps.V at hix ⊢
     refine pu_ 3 (some 17) ?_
     clear hix
     refine on_ 6 (some 20) (fun K hK => ?_)
     refine goesT_ Try.func96 (by kernel_rfl) rfl #[.agg #[.int .i64 a0_0, .slice A0_1 l0_1.length c0_1], .agg #[.int .i64 3, .int .i64 a1_1, .int .i64 a1_2, .int .i64 a1_3, .int .i64 a1_4]] (by rfl) rfl rfl rfl MP_ ?_
     with_reducible refine (post_take.calls k a0_0 A0_1 c0_1 l0_1 3 a1_1 a1_2 a1_3 a1_4 r1 r2 r3 _ (Kd.C_below HC.out HB.out) HC0.out HF.out).mono ?_
     rintro e_ w8 ⟨v1_, rfl, ho, hb⟩
     refine ⟨_, rfl, ?_⟩
     have HO := Aside0.mk (Kd.R_lower ho (below_size HB.out))
     clear ho
     have n_ := a_ (bs_ HB hb) (a_ (bb_ BZ hb) (a_ (bb_ BS hb) (bb_ BR hb)))
     clear HB BZ BS BR hb
     obtain ⟨HB, BZ, BS, BR⟩ := n_
     obtain ⟨A1, c1, ev_⟩ := Kd.R_slice HO.out
     subst ev_
     refine hK.out _ _ ⟨(blk_cell BZ.out 0).trans rfl, (blk_cell BZ.out 1).trans rfl, (blk_cell BS.out 0).trans rfl, (blk_cell BS.out 1).trans rfl, (blk_cell BS.out 2).trans rfl, (blk_cell BS.out 3).trans rfl, (blk_cell BS.out 4).trans rfl⟩ (fun hHeld => ?_)
     clear hK K
     refine nm_ ?_
     refine pu_ 7 (some 21) ?_
     refine pu_ 8 (some 22) ?_
     have hr0 : w8.cell? ⟨gr, 0, none⟩ = some (.int .i64 0) := (blk_cell BR.out 0).trans rfl
     have hr1 : w8.cell? ⟨gr, 1, none⟩ = some (.slice none 0 0) := (blk_cell BR.out 1).trans rfl
     have hf0 := blk_frozen BR.out 0
     have hf1 := blk_frozen BR.out 1
     refine on_ 9 (none) (fun K hK => ?_)
     refine skip_ (w1 := ?_) (by rfl) rfl ?_ ?_
     rotate_left
     · go_simp
       rfl
     refine hK.out _ _ ⟨(blk_cell (blk_far (blk_far BZ.out NZ.out _) NZ.out _) 0).trans rfl, (blk_cell (blk_far (blk_far BZ.out NZ.out _) NZ.out _) 1).trans rfl, (blk_cell (blk_far (blk_far BS.out NS.out _) NS.out _) 0).trans rfl, (blk_cell (blk_far (blk_far BS.out NS.out _) NS.out _) 1).trans rfl, (blk_cell (blk_far (blk_far BS.out NS.out _) NS.out _) 2).trans rfl, (blk_cell (blk_far (blk_far BS.out NS.out _) NS.out _) 3).trans rfl, (blk_cell (blk_far (blk_far BS.out NS.out _) NS.out _) 4).trans rfl⟩ (fun hHeld => ?_)
     clear hK K
     refine pu_ 10 (some 5) ?_
     refine done_ (done_of HT_.out (by kernel_rfl)) ?_
     go_wp2
     refine bodyPost_ret (results_ct rfl _ _ gr 24 #[.int .i64 r1, .slice A1 r2.length c1] (0, 0) _ rfl (by (with_reducible repeat (first | refine blk_alloc ?_ _)); refine blk_put (cs := #[.int .i64 r1, .slice none 0 0]) ?_ 1 _ rfl; refine blk_put (cs := #[.int .i64 0, .slice none 0 0]) ?_ 0 _ rfl; exact BR.out) Try.underlying24 rfl (by kernel_rfl)) rfl ?_
     exact ⟨_, rfl, rf2_ HO BR _ _, below_set (below_set HB.out GR.out) GR.out⟩
   rw [if_neg c3] at h
   by_cases c4 : a1_0 = 4
   · subst c4
     rw [if_pos rfl] at h
     have HF := Aside0.mk h
     clear h
     go_enter Try.func15, Try.ntmps15
     go_wp2_with (first | ((with_reducible refine gate_dst (N := 2) rfl ?_); refine bx_ (N := 2) (cs := #[.int .i64 a0_0, .slice A0_1 l0_1.length c0_1]) (t := 24) ?_; intro gz hg w3 hbox hb; have n_ := a_ (bs_ HB hb) (Aside0.mk hbox); clear HB hbox hb hg; obtain ⟨HB, BZ⟩ := n_) | ((with_reducible refine gate_dst (N := 3) rfl ?_); refine bx_ (N := 3) (cs := #[.int .i64 4, .int .i64 a1_1, .int .i64 a1_2, .int .i64 a1_3, .int .i64 a1_4]) (t := 26) ?_; intro gs hg w4 hbox hb; have n_ := a_ (bs_ HB hb) (a_ (bb_ BZ hb) (Aside0.mk hbox)); clear HB BZ hbox hb hg; obtain ⟨HB, BZ, BS⟩ := n_) | ((with_reducible refine gate_dst (N := 4) rfl ?_); refine bx_ (N := 4) (cs := #[.int .i64 0, .slice none 0 0]) (t := 24) ?_; intro gr hg w5 hbox hb; have n_ := a_ (bs_ HB hb) (a_ (bb_ BZ hb) (a_ (bb_ BS hb) (a_ (Aside0.mk hbox) (a_ (gs_ HB hg) (a_ (nl_ BZ hg) (nl_ BS hg)))))); clear HB BZ BS hbox hb hg; obtain ⟨HB, BZ, BS, BR, GR, NZ, NS⟩ := n_; have hz0 : w5.cell? ⟨gz, 0, none⟩ = some (.int .i64 a0_0) := (blk_cell BZ.out 0).trans rfl; have hz1 : w5.cell? ⟨gz, 1, none⟩ = some (.slice A0_1 l0_1.length c0_1) := (blk_cell BZ.out 1).trans rfl; have hs0 : w5.cell? ⟨gs, 0, none⟩ = some (.int .i64 4) := (blk_cell BS.out 0).trans rfl; have hs1 : w5.cell? ⟨gs, 1, none⟩ = some (.int .i64 a1_1) := (blk_cell BS.out 1).trans rfl; have hs2 : w5.cell? ⟨gs, 2, none⟩ = some (.int .i64 a1_2) := (blk_cell BS.out 2).trans rfl; have hs3 : w5.cell? ⟨gs, 3, none⟩ = some (.int .i64 a1_3) := (blk_cell BS.out 3).trans rfl; have hs4 : w5.cell? ⟨gs, 4, none⟩ = some (.int .i64 a1_4) := (blk_cell BS.out 4).trans rfl) | ((with_reducible refine gate_callee (f := 61) rfl ?_); refine goesL_ (some 9) rfl rfl Try.func61 (by kernel_rfl) rfl #[.agg #[.int .i64 a0_0, .slice A0_1 l0_1.length c0_1], .agg #[.int .i64 4, .int .i64 a1_1, .int .i64 a1_2, .int .i64 a1_3, .int .i64 a1_4]] rfl MP_ ?_; (with_reducible refine (post_check.calls k a0_0 A0_1 c0_1 l0_1 4 a1_1 a1_2 a1_3 a1_4 0 _ (Kd.C_below HC.out HB.out) HC0.out HE.out).mono ?_); rintro e_ w6 ⟨rfl, hb⟩; refine ⟨_, rfl, ?_⟩; (try clear hz0 hz1 hs0 hs1 hs2 hs3 hs4); have n_ := a_ (bs_ HB hb) (a_ (bb_ BZ hb) (a_ (bb_ BS hb) (bb_ BR hb))); clear HB BZ BS BR hb; obtain ⟨HB, BZ, BS, BR⟩ := n_; have hr0 : w6.cell? ⟨gr, 0, none⟩ = some (.int .i64 0) := (blk_cell BR.out 0).trans rfl; have hr1 : w6.cell? ⟨gr, 1, none⟩ = some (.slice none 0 0) := (blk_cell BR.out 1).trans rfl; have hf0 := blk_frozen BR.out 0; have hf1 := blk_frozen BR.out 1))
     clear hr0 hr1 hf0 hf1
     have n_ := a_ (Aside0.mk HB.out.drew) (a_ (Aside0.mk (blk_drew BZ.out)) (a_ (Aside0.mk (blk_drew BS.out)) (Aside0.mk (blk_drew BR.out))))
     clear HB BZ BS BR
     obtain ⟨HB, BZ, BS, BR⟩ := n_
     refine start_ (n := 11) (S := fun w' => w'.cell? ⟨gz, 0, none⟩ = some (.int .i64 a0_0) ∧ w'.cell? ⟨gz, 1, none⟩ = some (.slice A0_1 l0_1.length c0_1) ∧ w'.cell? ⟨gs, 0, none⟩ = some (.int .i64 4) ∧ w'.cell? ⟨gs, 1, none⟩ = some (.int .i64 a1_1) ∧ w'.cell? ⟨gs, 2, none⟩ = some (.int .i64 a1_2) ∧ w'.cell? ⟨gs, 3, none⟩ = some (.int .i64 a1_3) ∧ w'.cell? ⟨gs, 4, none⟩ = some (.int .i64 a1_4)) (ds := []) #[false, false, false, false, false, false, false, false, false, false, false] (by kernel_rfl) rfl rfl ⟨(blk_cell BZ.out 0).trans rfl, (blk_cell BZ.out 1).trans rfl, (blk_cell BS.out 0).trans rfl, (blk_cell BS.out 1).trans rfl, (blk_cell BS.out 2).trans rfl, (blk_cell BS.out 3).trans rfl, (blk_cell BS.out 4).trans rfl⟩ (fun hHeld => ?_); refine with_tabW post_Post.tab4 post_Post.bits4 (fun HT_ HW_ => ?_)
     generalize hwd_ : w6.drew = wd at HB BZ BS BR hHeld ⊢
     clear hwd_
     refine pu_ 1 (some 15) ?_
     refine take_ (i := 2) (N := some 16) (v := ?_) (a' := ?_) #[false, true, true, false, false, false, false, false, false, false, false] rfl rfl (take_ofW HT_.out HW_.out (by kernel_rfl)) (fun _ _ _ h => h) (Or.inl ⟨by rfl, ?_⟩) hHeld ?_ ?_
     rotate_left
     · rintro w' ⟨s0, s1, s2, s3, s4, s5, s6⟩
       go_simp
       with_reducible rfl
     rotate_left
     · exact AP_
     refine take_ (i := 4) (N := some 18) (v := ?_) (a' := ?_) #[false, true, true, false, true, false, false, false, false, false, false] rfl rfl (take_ofW HT_.out HW_.out (by kernel_rfl)) (fun _ _ _ h => h) (Or.inl ⟨by rfl, ?_⟩) hHeld ?_ ?_
     rotate_left
     · rintro w' ⟨s0, s1, s2, s3, s4, s5, s6⟩
       go_simp
       with_reducible rfl
     rotate_left
     · exact AP_
     refine take_ (i := 5) (N := some 19) (v := ?_) (a' := ?_) #[false, true, true, false, true, true, false, false, false, false, false] rfl rfl (take_ofW HT_.out HW_.out (by kernel_rfl)) (fun _ _ _ h => h) (Or.inl ⟨by rfl, ?_⟩) hHeld ?_ ?_
     rotate_left
     · rintro w' ⟨s0, s1, s2, s3, s4, s5, s6⟩
       go_simp
       with_reducible rfl
     rotate_left
     · exact AP_
     refine on_ 0 (some 14) (fun K hK => ?_)
     refine goes_ Try.func62 (by kernel_rfl) rfl #[] (by rfl) rfl rfl MP_ ?_
     with_reducible refine (post_steps.calls _).mono ?_
     rintro e_ w7 ⟨rfl, hb⟩
     refine ⟨_, rfl, ?_⟩
     have n_ := a_ (bs_ HB hb) (a_ (bb_ BZ hb) (a_ (bb_ BS hb) (bb_ BR hb)))
     clear HB BZ BS BR hb
     obtain ⟨HB, BZ, BS, BR⟩ := n_
     refine hK.out _ _ ⟨(blk_cell BZ.out 0).trans rfl, (blk_cell BZ.out 1).trans rfl, (blk_cell BS.out 0).trans rfl, (blk_cell BS.out 1).trans rfl, (blk_cell BS.out 2).trans rfl, (blk_cell BS.out 3).trans rfl, (blk_cell BS.out 4).trans rfl⟩ (fun hHeld => ?_)
     clear hK K
     refine nm_ ?_
     have hix := post_Post.ix4
     unfold post_steps.V at hix ⊢
     refine pu_ 3 (some 17) ?_
     clear hix
     refine on_ 6 (some 20) (fun K hK => ?_)
     refine goesT_ Try.func97 (by kernel_rfl) rfl #[.agg #[.int .i64 a0_0, .slice A0_1 l0_1.length c0_1], .agg #[.int .i64 4, .int .i64 a1_1, .int .i64 a1_2, .int .i64 a1_3, .int .i64 a1_4]] (by rfl) rfl rfl rfl MP_ ?_
     with_reducible refine (post_limit.calls k a0_0 A0_1 c0_1 l0_1 4 a1_1 a1_2 a1_3 a1_4 r1 r2 r3 _ (Kd.C_below HC.out HB.out) HC0.out HF.out).mono ?_
     rintro e_ w8 ⟨v1_, rfl, ho, hb⟩
     refine ⟨_, rfl, ?_⟩
     have HO := Aside0.mk (Kd.R_lower ho (below_size HB.out))
     clear ho
     have n_ := a_ (bs_ HB hb) (a_ (bb_ BZ hb) (a_ (bb_ BS hb) (bb_ BR hb)))
     clear HB BZ BS BR hb
     obtain ⟨HB, BZ, BS, BR⟩ := n_
     obtain ⟨A1, c1, ev_⟩ := Kd.R_slice HO.out
     subst ev_
     refine hK.out _ _ ⟨(blk_cell BZ.out 0).trans rfl, (blk_cell BZ.out 1).trans rfl, (blk_cell BS.out 0).trans rfl, (blk_cell BS.out 1).trans rfl, (blk_cell BS.out 2).trans rfl, (blk_cell BS.out 3).trans rfl, (blk_cell BS.out 4).trans rfl⟩ (fun hHeld => ?_)
     clear hK K
     refine nm_ ?_
     refine pu_ 7 (some 21) ?_
     refine pu_ 8 (some 22) ?_
     have hr0 : w8.cell? ⟨gr, 0, none⟩ = some (.int .i64 0) := (blk_cell BR.out 0).trans rfl
     have hr1 : w8.cell? ⟨gr, 1, none⟩ = some (.slice none 0 0) := (blk_cell BR.out 1).trans rfl
     have hf0 := blk_frozen BR.out 0
     have hf1 := blk_frozen BR.out 1
     refine on_ 9 (none) (fun K hK => ?_)
     refine skip_ (w1 := ?_) (by rfl) rfl ?_ ?_
     rotate_left
     · go_simp
       rfl
     refine hK.out _ _ ⟨(blk_cell (blk_far (blk_far BZ.out NZ.out _) NZ.out _) 0).trans rfl, (blk_cell (blk_far (blk_far BZ.out NZ.out _) NZ.out _) 1).trans rfl, (blk_cell (blk_far (blk_far BS.out NS.out _) NS.out _) 0).trans rfl, (blk_cell (blk_far (blk_far BS.out NS.out _) NS.out _) 1).trans rfl, (blk_cell (blk_far (blk_far BS.out NS.out _) NS.out _) 2).trans rfl, (blk_cell (blk_far (blk_far BS.out NS.out _) NS.out _) 3).trans rfl, (blk_cell (blk_far (blk_far BS.out NS.out _) NS.out _) 4).trans rfl⟩ (fun hHeld => ?_)
     clear hK K
     refine pu_ 10 (some 5) ?_
     refine done_ (done_of HT_.out (by kernel_rfl)) ?_
     go_wp2
     refine bodyPost_ret (results_ct rfl _ _ gr 24 #[.int .i64 r1, .slice A1 r2.length c1] (0, 0) _ rfl (by (with_reducible repeat (first | refine blk_alloc ?_ _)); refine blk_put (cs := #[.int .i64 r1, .slice none 0 0]) ?_ 1 _ rfl; refine blk_put (cs := #[.int .i64 0, .slice none 0 0]) ?_ 0 _ rfl; exact BR.out) Try.underlying24 rfl (by kernel_rfl)) rfl ?_
     exact ⟨_, rfl, rf2_ HO BR _ _, below_set (below_set HB.out GR.out) GR.out⟩
   rw [if_neg c4] at h
   by_cases c5 : a1_0 = 5
   · subst c5
     rw [if_pos rfl] at h
     have HF := Aside0.mk h
     clear h
     go_enter Try.func15, Try.ntmps15
     go_wp2_with (first | ((with_reducible refine gate_dst (N := 2) rfl ?_); refine bx_ (N := 2) (cs := #[.int .i64 a0_0, .slice A0_1 l0_1.length c0_1]) (t := 24) ?_; intro gz hg w3 hbox hb; have n_ := a_ (bs_ HB hb) (Aside0.mk hbox); clear HB hbox hb hg; obtain ⟨HB, BZ⟩ := n_) | ((with_reducible refine gate_dst (N := 3) rfl ?_); refine bx_ (N := 3) (cs := #[.int .i64 5, .int .i64 a1_1, .int .i64 a1_2, .int .i64 a1_3, .int .i64 a1_4]) (t := 26) ?_; intro gs hg w4 hbox hb; have n_ := a_ (bs_ HB hb) (a_ (bb_ BZ hb) (Aside0.mk hbox)); clear HB BZ hbox hb hg; obtain ⟨HB, BZ, BS⟩ := n_) | ((with_reducible refine gate_dst (N := 4) rfl ?_); refine bx_ (N := 4) (cs := #[.int .i64 0, .slice none 0 0]) (t := 24) ?_; intro gr hg w5 hbox hb; have n_ := a_ (bs_ HB hb) (a_ (bb_ BZ hb) (a_ (bb_ BS hb) (a_ (Aside0.mk hbox) (a_ (gs_ HB hg) (a_ (nl_ BZ hg) (nl_ BS hg)))))); clear HB BZ BS hbox hb hg; obtain ⟨HB, BZ, BS, BR, GR, NZ, NS⟩ := n_; have hz0 : w5.cell? ⟨gz, 0, none⟩ = some (.int .i64 a0_0) := (blk_cell BZ.out 0).trans rfl; have hz1 : w5.cell? ⟨gz, 1, none⟩ = some (.slice A0_1 l0_1.length c0_1) := (blk_cell BZ.out 1).trans rfl; have hs0 : w5.cell? ⟨gs, 0, none⟩ = some (.int .i64 5) := (blk_cell BS.out 0).trans rfl; have hs1 : w5.cell? ⟨gs, 1, none⟩ = some (.int .i64 a1_1) := (blk_cell BS.out 1).trans rfl; have hs2 : w5.cell? ⟨gs, 2, none⟩ = some (.int .i64 a1_2) := (blk_cell BS.out 2).trans rfl; have hs3 : w5.cell? ⟨gs, 3, none⟩ = some (.int .i64 a1_3) := (blk_cell BS.out 3).trans rfl; have hs4 : w5.cell? ⟨gs, 4, none⟩ = some (.int .i64 a1_4) := (blk_cell BS.out 4).trans rfl) | ((with_reducible refine gate_callee (f := 61) rfl ?_); refine goesL_ (some 9) rfl rfl Try.func61 (by kernel_rfl) rfl #[.agg #[.int .i64 a0_0, .slice A0_1 l0_1.length c0_1], .agg #[.int .i64 5, .int .i64 a1_1, .int .i64 a1_2, .int .i64 a1_3, .int .i64 a1_4]] rfl MP_ ?_; (with_reducible refine (post_check.calls k a0_0 A0_1 c0_1 l0_1 5 a1_1 a1_2 a1_3 a1_4 0 _ (Kd.C_below HC.out HB.out) HC0.out HE.out).mono ?_); rintro e_ w6 ⟨rfl, hb⟩; refine ⟨_, rfl, ?_⟩; (try clear hz0 hz1 hs0 hs1 hs2 hs3 hs4); have n_ := a_ (bs_ HB hb) (a_ (bb_ BZ hb) (a_ (bb_ BS hb) (bb_ BR hb))); clear HB BZ BS BR hb; obtain ⟨HB, BZ, BS, BR⟩ := n_; have hr0 : w6.cell? ⟨gr, 0, none⟩ = some (.int .i64 0) := (blk_cell BR.out 0).trans rfl; have hr1 : w6.cell? ⟨gr, 1, none⟩ = some (.slice none 0 0) := (blk_cell BR.out 1).trans rfl; have hf0 := blk_frozen BR.out 0; have hf1 := blk_frozen BR.out 1))
     clear hr0 hr1 hf0 hf1
     have n_ := a_ (Aside0.mk HB.out.drew) (a_ (Aside0.mk (blk_drew BZ.out)) (a_ (Aside0.mk (blk_drew BS.out)) (Aside0.mk (blk_drew BR.out))))
     clear HB BZ BS BR
     obtain ⟨HB, BZ, BS, BR⟩ := n_
     refine start_ (n := 11) (S := fun w' => w'.cell? ⟨gz, 0, none⟩ = some (.int .i64 a0_0) ∧ w'.cell? ⟨gz, 1, none⟩ = some (.slice A0_1 l0_1.length c0_1) ∧ w'.cell? ⟨gs, 0, none⟩ = some (.int .i64 5) ∧ w'.cell? ⟨gs, 1, none⟩ = some (.int .i64 a1_1) ∧ w'.cell? ⟨gs, 2, none⟩ = some (.int .i64 a1_2) ∧ w'.cell? ⟨gs, 3, none⟩ = some (.int .i64 a1_3) ∧ w'.cell? ⟨gs, 4, none⟩ = some (.int .i64 a1_4)) (ds := []) #[false, false, false, false, false, false, false, false, false, false, false] (by kernel_rfl) rfl rfl ⟨(blk_cell BZ.out 0).trans rfl, (blk_cell BZ.out 1).trans rfl, (blk_cell BS.out 0).trans rfl, (blk_cell BS.out 1).trans rfl, (blk_cell BS.out 2).trans rfl, (blk_cell BS.out 3).trans rfl, (blk_cell BS.out 4).trans rfl⟩ (fun hHeld => ?_); refine with_tabW post_Post.tab4 post_Post.bits4 (fun HT_ HW_ => ?_)
     generalize hwd_ : w6.drew = wd at HB BZ BS BR hHeld ⊢
     clear hwd_
     refine pu_ 1 (some 15) ?_
     refine take_ (i := 2) (N := some 16) (v := ?_) (a' := ?_) #[false, true, true, false, false, false, false, false, false, false, false] rfl rfl (take_ofW HT_.out HW_.out (by kernel_rfl)) (fun _ _ _ h => h) (Or.inl ⟨by rfl, ?_⟩) hHeld ?_ ?_
     rotate_left
     · rintro w' ⟨s0, s1, s2, s3, s4, s5, s6⟩
       go_simp
       with_reducible rfl
     rotate_left
     · exact AP_
     refine take_ (i := 4) (N := some 18) (v := ?_) (a' := ?_) #[false, true, true, false, true, false, false, false, false, false, false] rfl rfl (take_ofW HT_.out HW_.out (by kernel_rfl)) (fun _ _ _ h => h) (Or.inl ⟨by rfl, ?_⟩) hHeld ?_ ?_
     rotate_left
     · rintro w' ⟨s0, s1, s2, s3, s4, s5, s6⟩
       go_simp
       with_reducible rfl
     rotate_left
     · exact AP_
     refine take_ (i := 5) (N := some 19) (v := ?_) (a' := ?_) #[false, true, true, false, true, true, false, false, false, false, false] rfl rfl (take_ofW HT_.out HW_.out (by kernel_rfl)) (fun _ _ _ h => h) (Or.inl ⟨by rfl, ?_⟩) hHeld ?_ ?_
     rotate_left
     · rintro w' ⟨s0, s1, s2, s3, s4, s5, s6⟩
       go_simp
       with_reducible rfl
     rotate_left
     · exact AP_
     refine on_ 0 (some 14) (fun K hK => ?_)
     refine goes_ Try.func62 (by kernel_rfl) rfl #[] (by rfl) rfl rfl MP_ ?_
     with_reducible refine (post_steps.calls _).mono ?_
     rintro e_ w7 ⟨rfl, hb⟩
     refine ⟨_, rfl, ?_⟩
     have n_ := a_ (bs_ HB hb) (a_ (bb_ BZ hb) (a_ (bb_ BS hb) (bb_ BR hb)))
     clear HB BZ BS BR hb
     obtain ⟨HB, BZ, BS, BR⟩ := n_
     refine hK.out _ _ ⟨(blk_cell BZ.out 0).trans rfl, (blk_cell BZ.out 1).trans rfl, (blk_cell BS.out 0).trans rfl, (blk_cell BS.out 1).trans rfl, (blk_cell BS.out 2).trans rfl, (blk_cell BS.out 3).trans rfl, (blk_cell BS.out 4).trans rfl⟩ (fun hHeld => ?_)
     clear hK K
     refine nm_ ?_
     have hix := post_Post.ix5
     unfold post_steps.V at hix ⊢
     refine pu_ 3 (some 17) ?_
     clear hix
     refine on_ 6 (some 20) (fun K hK => ?_)
     refine goesT_ Try.func97 (by kernel_rfl) rfl #[.agg #[.int .i64 a0_0, .slice A0_1 l0_1.length c0_1], .agg #[.int .i64 5, .int .i64 a1_1, .int .i64 a1_2, .int .i64 a1_3, .int .i64 a1_4]] (by rfl) rfl rfl rfl MP_ ?_
     with_reducible refine (post_limit.calls k a0_0 A0_1 c0_1 l0_1 5 a1_1 a1_2 a1_3 a1_4 r1 r2 r3 _ (Kd.C_below HC.out HB.out) HC0.out HF.out).mono ?_
     rintro e_ w8 ⟨v1_, rfl, ho, hb⟩
     refine ⟨_, rfl, ?_⟩
     have HO := Aside0.mk (Kd.R_lower ho (below_size HB.out))
     clear ho
     have n_ := a_ (bs_ HB hb) (a_ (bb_ BZ hb) (a_ (bb_ BS hb) (bb_ BR hb)))
     clear HB BZ BS BR hb
     obtain ⟨HB, BZ, BS, BR⟩ := n_
     obtain ⟨A1, c1, ev_⟩ := Kd.R_slice HO.out
     subst ev_
     refine hK.out _ _ ⟨(blk_cell BZ.out 0).trans rfl, (blk_cell BZ.out 1).trans rfl, (blk_cell BS.out 0).trans rfl, (blk_cell BS.out 1).trans rfl, (blk_cell BS.out 2).trans rfl, (blk_cell BS.out 3).trans rfl, (blk_cell BS.out 4).trans rfl⟩ (fun hHeld => ?_)
     clear hK K
     refine nm_ ?_
     refine pu_ 7 (some 21) ?_
     refine pu_ 8 (some 22) ?_
     have hr0 : w8.cell? ⟨gr, 0, none⟩ = some (.int .i64 0) := (blk_cell BR.out 0).trans rfl
     have hr1 : w8.cell? ⟨gr, 1, none⟩ = some (.slice none 0 0) := (blk_cell BR.out 1).trans rfl
     have hf0 := blk_frozen BR.out 0
     have hf1 := blk_frozen BR.out 1
     refine on_ 9 (none) (fun K hK => ?_)
     refine skip_ (w1 := ?_) (by rfl) rfl ?_ ?_
     rotate_left
     · go_simp
       rfl
     refine hK.out _ _ ⟨(blk_cell (blk_far (blk_far BZ.out NZ.out _) NZ.out _) 0).trans rfl, (blk_cell (blk_far (blk_far BZ.out NZ.out _) NZ.out _) 1).trans rfl, (blk_cell (blk_far (blk_far BS.out NS.out _) NS.out _) 0).trans rfl, (blk_cell (blk_far (blk_far BS.out NS.out _) NS.out _) 1).trans rfl, (blk_cell (blk_far (blk_far BS.out NS.out _) NS.out _) 2).trans rfl, (blk_cell (blk_far (blk_far BS.out NS.out _) NS.out _) 3).trans rfl, (blk_cell (blk_far (blk_far BS.out NS.out _) NS.out _) 4).trans rfl⟩ (fun hHeld => ?_)
     clear hK K
     refine pu_ 10 (some 5) ?_
     refine done_ (done_of HT_.out (by kernel_rfl)) ?_
     go_wp2
     refine bodyPost_ret (results_ct rfl _ _ gr 24 #[.int .i64 r1, .slice A1 r2.length c1] (0, 0) _ rfl (by (with_reducible repeat (first | refine blk_alloc ?_ _)); refine blk_put (cs := #[.int .i64 r1, .slice none 0 0]) ?_ 1 _ rfl; refine blk_put (cs := #[.int .i64 0, .slice none 0 0]) ?_ 0 _ rfl; exact BR.out) Try.underlying24 rfl (by kernel_rfl)) rfl ?_
     exact ⟨_, rfl, rf2_ HO BR _ _, below_set (below_set HB.out GR.out) GR.out⟩
   rw [if_neg c5] at h
   cases h
end Go.Proofs.Ytgeemdpflcefkaa.Y

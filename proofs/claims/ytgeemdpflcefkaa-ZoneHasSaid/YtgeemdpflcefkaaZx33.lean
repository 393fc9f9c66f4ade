-- WRITTEN BY this session's program wip/ext.py, in print.py's manner
import Derived.Test.YtgeemdpflcefkaaZx0
import Derived.Test.YtgeemdpflcefkaaZx1
import Derived.Test.YtgeemdpflcefkaaZx3
import Derived.Test.YtgeemdpflcefkaaZx15
import Derived.Test.YtgeemdpflcefkaaZx16
import Derived.Test.YtgeemdpflcefkaaZx17
import Derived.Test.YtgeemdpflcefkaaZx19
import Derived.Test.YtgeemdpflcefkaaZx21
import Derived.Test.YtgeemdpflcefkaaZx23
import Derived.Test.YtgeemdpflcefkaaZx25
import Derived.Test.YtgeemdpflcefkaaZx29
import Derived.Test.YtgeemdpflcefkaaZx32
namespace Go.Proofs.Ytgeemdpflcefkaa.Z
open Go.RowKit Go.Proofs.YtgeemdpflcefkaaW.PrintWords Go.Proofs.YtgeemdpflcefkaaW.PrintLast Go.Proofs.YtgeemdpflcefkaaW.PrintMore
attribute [local go_sem] max2_int min2_int max_two min_two max_three min_three max_four min_four   -- for this text's walks alone
set_option linter.unusedVariables false
set_option linter.unusedSimpArgs false

attribute [local go_sem high] eqA39
/-! ### warrantorlaw09_lives: function 22 -/
def warrantorlaw09_lives.f (k : Nat)  : Option (Bool) := (zone_Box.f k (([(⟨0, 1099511627776⟩ : S39), (⟨3, 5⟩ : S39)] : List (S39)))).bind fun bt303 => ((zone_Let.f k bt303.1 bt303.2.1 1 1 1).bind fun bt309 => ((zone_Itv.f k bt309.1 bt309.2.1 1).bind fun bt315 => ((zone_Let.f k bt303.1 bt303.2.1 1 2 (-1)).bind fun bt319 => ((dbm_Bound.f k bt319.1 bt319.2.1 1 2).bind fun bt325 => ((zone_Leq.f k bt309.1 bt309.2.1 bt303.1 bt303.2.1).bind fun bt327 => ((zone_Meet.f k bt303.1 bt303.2.1 bt319.1 bt319.2.1).bind fun bt329 => ((zone_Join.f k bt303.1 bt303.2.1 bt319.1 bt319.2.1).bind fun bt335 => ((zone_Limit.f k bt303.1 bt303.2.1 0 3 1).bind fun bt341 => ((zone_Forget.f k 9 ([] : List Int) 1).bind fun bt347 => (if bt303.2.2 = 0 then (if bt309.2.2 = 0 then (if bt315.2.2 = 0 then (if (bt315.1 == 1 && (bt315.2.1 == 1099511627776)) = true then (if bt319.2.2 = 0 then (if bt325.1 = (-1) then (if bt327.1 = true then (if bt327.2 = 0 then (if bt329.2.2 = 0 then ((dbm_Same.f k bt329.1 bt329.2.1 bt319.1 bt319.2.1).bind fun t353 => (if t353 = true then (if bt335.2.2 = 0 then ((dbm_Same.f k bt335.1 bt335.2.1 bt303.1 bt303.2.1).bind fun t354 => (if t354 = true then (if bt341.2.2 = 1 then (some (bt347.2.2 == 80)) else (none)) else (none))) else (none)) else (none))) else (none)) else (none)) else (none)) else (none)) else (none)) else (none)) else (none)) else (none)) else (none)))))))))))
theorem warrantorlaw09_lives.mono : ∀ k, LeO (warrantorlaw09_lives.f k ) (warrantorlaw09_lives.f (k + 1) ) := by
  intro  k
  unfold warrantorlaw09_lives.f
  repeat' first
      | (with_reducible exact dbm_Bound.mono _ _ _ _ _)
      | (with_reducible exact dbm_Same.mono _ _ _ _ _)
      | (with_reducible exact zone_Box.mono _ _)
      | (with_reducible exact zone_Forget.mono _ _ _ _)
      | (with_reducible exact zone_Itv.mono _ _ _ _)
      | (with_reducible exact zone_Join.mono _ _ _ _ _)
      | (with_reducible exact zone_Leq.mono _ _ _ _ _)
      | (with_reducible exact zone_Let.mono _ _ _ _ _ _)
      | (with_reducible exact zone_Limit.mono _ _ _ _ _ _)
      | (with_reducible exact zone_Meet.mono _ _ _ _ _)
      | (with_reducible exact LeO.refl _)
      | (with_reducible exact LeO.none _)
      | (with_reducible refine LeO.ite ?_ ?_)
      | (with_reducible refine LeO.bind ?_ (fun _ => ?_))
      | exact dbm_Bound.mono _ _ _ _ _
      | exact dbm_Same.mono _ _ _ _ _
      | exact zone_Box.mono _ _
      | exact zone_Forget.mono _ _ _ _
      | exact zone_Itv.mono _ _ _ _
      | exact zone_Join.mono _ _ _ _ _
      | exact zone_Leq.mono _ _ _ _ _
      | exact zone_Let.mono _ _ _ _ _ _
      | exact zone_Limit.mono _ _ _ _ _ _
      | exact zone_Meet.mono _ _ _ _ _
      | exact LeO.none _
      | refine LeO.ite ?_ ?_
      | refine LeO.bind ?_ (fun _ => ?_)
set_option maxHeartbeats 8000000 in
set_option maxRecDepth 100000 in
theorem warrantorlaw09_lives.calls (k : Nat)  (r : Bool) (w : World) (h : warrantorlaw09_lives.f k  = some r) :
    Calls Try.prog 22 #[] w fun e w' => e = .returned (.bool r) ∧ Below w.heap.size w w' := by
  have hu39 := Try.underlying39
  have hu24 := Try.underlying24
  have HB := Aside0.mk (Below.refl w.heap.size w)
  have H : ((zone_Box.f k (([(⟨0, 1099511627776⟩ : S39), (⟨3, 5⟩ : S39)] : List (S39)))).bind fun bt303 => ((zone_Let.f k bt303.1 bt303.2.1 1 1 1).bind fun bt309 => ((zone_Itv.f k bt309.1 bt309.2.1 1).bind fun bt315 => ((zone_Let.f k bt303.1 bt303.2.1 1 2 (-1)).bind fun bt319 => ((dbm_Bound.f k bt319.1 bt319.2.1 1 2).bind fun bt325 => ((zone_Leq.f k bt309.1 bt309.2.1 bt303.1 bt303.2.1).bind fun bt327 => ((zone_Meet.f k bt303.1 bt303.2.1 bt319.1 bt319.2.1).bind fun bt329 => ((zone_Join.f k bt303.1 bt303.2.1 bt319.1 bt319.2.1).bind fun bt335 => ((zone_Limit.f k bt303.1 bt303.2.1 0 3 1).bind fun bt341 => ((zone_Forget.f k 9 ([] : List Int) 1).bind fun bt347 => (if bt303.2.2 = 0 then (if bt309.2.2 = 0 then (if bt315.2.2 = 0 then (if (bt315.1 == 1 && (bt315.2.1 == 1099511627776)) = true then (if bt319.2.2 = 0 then (if bt325.1 = (-1) then (if bt327.1 = true then (if bt327.2 = 0 then (if bt329.2.2 = 0 then ((dbm_Same.f k bt329.1 bt329.2.1 bt319.1 bt319.2.1).bind fun t353 => (if t353 = true then (if bt335.2.2 = 0 then ((dbm_Same.f k bt335.1 bt335.2.1 bt303.1 bt303.2.1).bind fun t354 => (if t354 = true then (if bt341.2.2 = 1 then (some (bt347.2.2 == 80)) else (none)) else (none))) else (none)) else (none))) else (none)) else (none)) else (none)) else (none)) else (none)) else (none)) else (none)) else (none)) else (none)))))))))))) = some r := h
  clear h
  obtain ⟨y300, hy300⟩ : ∃ y_ : List (S39), y_ = (([(⟨0, 1099511627776⟩ : S39), (⟨3, 5⟩ : S39)] : List (S39))) := ⟨_, rfl⟩
  replace H : ((zone_Box.f k y300).bind fun bt303 => ((zone_Let.f k bt303.1 bt303.2.1 1 1 1).bind fun bt309 => ((zone_Itv.f k bt309.1 bt309.2.1 1).bind fun bt315 => ((zone_Let.f k bt303.1 bt303.2.1 1 2 (-1)).bind fun bt319 => ((dbm_Bound.f k bt319.1 bt319.2.1 1 2).bind fun bt325 => ((zone_Leq.f k bt309.1 bt309.2.1 bt303.1 bt303.2.1).bind fun bt327 => ((zone_Meet.f k bt303.1 bt303.2.1 bt319.1 bt319.2.1).bind fun bt329 => ((zone_Join.f k bt303.1 bt303.2.1 bt319.1 bt319.2.1).bind fun bt335 => ((zone_Limit.f k bt303.1 bt303.2.1 0 3 1).bind fun bt341 => ((zone_Forget.f k 9 ([] : List Int) 1).bind fun bt347 => (if bt303.2.2 = 0 then (if bt309.2.2 = 0 then (if bt315.2.2 = 0 then (if (bt315.1 == 1 && (bt315.2.1 == 1099511627776)) = true then (if bt319.2.2 = 0 then (if bt325.1 = (-1) then (if bt327.1 = true then (if bt327.2 = 0 then (if bt329.2.2 = 0 then ((dbm_Same.f k bt329.1 bt329.2.1 bt319.1 bt319.2.1).bind fun t353 => (if t353 = true then (if bt335.2.2 = 0 then ((dbm_Same.f k bt335.1 bt335.2.1 bt303.1 bt303.2.1).bind fun t354 => (if t354 = true then (if bt341.2.2 = 1 then (some (bt347.2.2 == 80)) else (none)) else (none))) else (none)) else (none))) else (none)) else (none)) else (none)) else (none)) else (none)) else (none)) else (none)) else (none)) else (none)))))))))))) = some r := by first | (rw [hy300]; with_reducible exact H) | (have H2_ := (Option.bind_some _ _).symm.trans H; rw [hy300]; with_reducible exact H2_) | (have H2_ := (Option.bind_some _ _).symm.trans H; with_reducible exact H2_) | with_reducible exact H | (rw [hy300]; exact H) | exact H
  have Ny300 := Aside0.mk hy300
  clear hy300
  replace H := bd_ H
  obtain ⟨⟨t303, t304, t307⟩, A1, H⟩ := H
  (try dsimp only at H)
  replace H := bd_ H
  obtain ⟨⟨t309, t310, t313⟩, A2, H⟩ := H
  (try dsimp only at H)
  replace H := bd_ H
  obtain ⟨⟨t315, t316, t317⟩, A3, H⟩ := H
  (try dsimp only at H)
  replace H := bd_ H
  obtain ⟨⟨t319, t320, t323⟩, A4, H⟩ := H
  (try dsimp only at H)
  replace H := bd_ H
  obtain ⟨⟨t325, t326⟩, A5, H⟩ := H
  (try dsimp only at H)
  replace H := bd_ H
  obtain ⟨⟨t327, t328⟩, A6, H⟩ := H
  (try dsimp only at H)
  replace H := bd_ H
  obtain ⟨⟨t329, t330, t333⟩, A7, H⟩ := H
  (try dsimp only at H)
  replace H := bd_ H
  obtain ⟨⟨t335, t336, t339⟩, A8, H⟩ := H
  (try dsimp only at H)
  replace H := bd_ H
  obtain ⟨⟨t341, t342, t345⟩, A9, H⟩ := H
  (try dsimp only at H)
  replace H := bd_ H
  obtain ⟨⟨t347, t348, t351⟩, A10, H⟩ := H
  (try dsimp only at H)
  replace H := yes_ H
  obtain ⟨c11, H⟩ := H
  have c11b0 : (t307 == 0) = true := beq_iff_eq.mpr c11
  have c11b1 : (t307 != 0) = false := bne_eq_false_iff_eq.mpr c11
  clear c11
  replace H := yes_ H
  obtain ⟨c12, H⟩ := H
  have c12b0 : (t313 == 0) = true := beq_iff_eq.mpr c12
  have c12b1 : (t313 != 0) = false := bne_eq_false_iff_eq.mpr c12
  clear c12
  replace H := yes_ H
  obtain ⟨c13, H⟩ := H
  have c13b0 : (t317 == 0) = true := beq_iff_eq.mpr c13
  have c13b1 : (t317 != 0) = false := bne_eq_false_iff_eq.mpr c13
  clear c13
  replace H := yes_ H
  obtain ⟨c14, H⟩ := H
  have c14b0 : (t315 == 1 && (t316 == 1099511627776)) = true := c14
  (try (have c14b1 : decide (t315 = 1 && (t316 == 1099511627776)) = true := by simpa using c14))
  (try (have c14b2 : (t315 == 1 && (t316 == 1099511627776)) = true := by simpa using c14))
  clear c14
  replace H := yes_ H
  obtain ⟨c15, H⟩ := H
  have c15b0 : (t323 == 0) = true := beq_iff_eq.mpr c15
  have c15b1 : (t323 != 0) = false := bne_eq_false_iff_eq.mpr c15
  clear c15
  replace H := yes_ H
  obtain ⟨c16, H⟩ := H
  have c16b0 : (t325 == (-1)) = true := beq_iff_eq.mpr c16
  have c16b1 : (t325 != (-1)) = false := bne_eq_false_iff_eq.mpr c16
  clear c16
  replace H := yes_ H
  obtain ⟨c17, H⟩ := H
  subst c17
  replace H := yes_ H
  obtain ⟨c18, H⟩ := H
  have c18b0 : (t328 == 0) = true := beq_iff_eq.mpr c18
  have c18b1 : (t328 != 0) = false := bne_eq_false_iff_eq.mpr c18
  clear c18
  replace H := yes_ H
  obtain ⟨c19, H⟩ := H
  have c19b0 : (t333 == 0) = true := beq_iff_eq.mpr c19
  have c19b1 : (t333 != 0) = false := bne_eq_false_iff_eq.mpr c19
  clear c19
  replace H := bd_ H
  obtain ⟨t353, A20, H⟩ := H
  (try dsimp only at H)
  replace H := yes_ H
  obtain ⟨c21, H⟩ := H
  subst c21
  replace H := yes_ H
  obtain ⟨c22, H⟩ := H
  have c22b0 : (t339 == 0) = true := beq_iff_eq.mpr c22
  have c22b1 : (t339 != 0) = false := bne_eq_false_iff_eq.mpr c22
  clear c22
  replace H := bd_ H
  obtain ⟨t354, A23, H⟩ := H
  (try dsimp only at H)
  replace H := yes_ H
  obtain ⟨c24, H⟩ := H
  subst c24
  replace H := yes_ H
  obtain ⟨c25, H⟩ := H
  have c25b0 : (t345 == 1) = true := beq_iff_eq.mpr c25
  have c25b1 : (t345 != 1) = false := bne_eq_false_iff_eq.mpr c25
  clear c25
  obtain rfl := Option.some.inj H
  go_enter Try.func22, Try.ntmps22
  go_upto_region 11 with (first | ((with_reducible refine gate_dst (N := 24) rfl ?_); refine Kd.R_lit k39 _ 39 ?hg (N := 24) ?hd (xs := ([(⟨0, 1099511627776⟩ : S39), (⟨3, 5⟩ : S39)] : List (S39))) (inner := [.int .i64 0, .int .i64 1099511627776, .int .i64 3, .int .i64 5]) (ok := fun _ => True) (okp := fun _ => True) ?hr ?hp (fun _ hk => hk) trivial (Below.refl _ _) (Nat.le_refl _) (by simp) ?_; (case hd => rfl); (case hg => rfl); (case hr => first | (go_simp; done) | (go_simp; rfl)); (case hp => exact (Reps.c2 (show Kd.M k39 _ _ _ (⟨0, 1099511627776⟩ : S39) [.int .i64 0, .int .i64 1099511627776] from (k39_mkM _ _ _ (⟨0, 1099511627776⟩ : S39) )) (Reps.c2 (show Kd.M k39 _ _ _ (⟨3, 5⟩ : S39) [.int .i64 3, .int .i64 5] from (k39_mkM _ _ _ (⟨3, 5⟩ : S39) )) (Reps.none _ _)))); intro v301 w26 ho27 hb hg_ hnew_; clear hg_ hnew_; (first | rw [← Ny300.out] at ho27 | (simp only [Int.reduceToNat] at ho27; rw [← Ny300.out] at ho27)); have n_ := a_ (Aside0.mk (Kd.R_lower ho27 (below_size HB_))) (bs_ HB hb); clear HB; obtain ⟨HO302, HB⟩ := n_; clear hb ho27; obtain ⟨Ao28, co28, eo28⟩ := Kd.R_slice HO302.out; subst eo28) | ((with_reducible refine gate_callee (f := 49) rfl ?_); refine goesL_ (some 25) rfl rfl Try.func49 (by kernel_rfl) rfl #[.slice Ao28 y300.length co28] rfl MP_ ?_; (with_reducible refine (zone_Box.calls k _ _ y300 t303 t304 t307 _ ?side1 ?side2 A1.out).mono ?_); (case side1 => repeat (first | exact (Kd.R_reads' HO302.out).2.2 | (with_reducible refine Kd.C_alloc ?_ _) | (with_reducible refine Kd.C_drewN ?_ _) | (with_reducible refine Kd.C_drew ?_))); (case side2 => exact (Kd.R_reads' HO302.out).2.1); rintro e w29 ⟨v305, rfl, ho0, hb⟩; refine ⟨_, rfl, ?_⟩; have n_ := a_ (rb_ HO302 hb) (a_ (Aside0.mk (Kd.R_lower ho0 (below_size HB_))) (bs_ HB hb)); clear HO302 HB; obtain ⟨HO302, HO306, HB⟩ := n_; (try clear hb); (try clear hb2); (try clear hk); (try clear hi); (try clear ho0)) | ((with_reducible refine gate_dst (N := 1) rfl ?_); refine bx_ (N := 1) (cs := #[.int .i64 0, .slice none 0 0]) (t := 24) ?_; intro gb308 hg w30 hbox hb; have n_ := a_ (rb_ HO302 hb) (a_ (rb_ HO306 hb) (a_ (bs_ HB hb) (a_ (Aside0.mk hbox) (a_ (gs_ HB hg) (gs_ HB hg))))); clear HO302 HO306 HB; obtain ⟨HO302, HO306, HB, BK308, GW308, GE308⟩ := n_; clear hb hbox hg; obtain ⟨hcz31_0, hcz31_1, hfz31_0, hfz31_1⟩ := cz2_ BK308; obtain ⟨Ao32, co32, eo32⟩ := Kd.R_slice HO306.out; subst eo32) | ((with_reducible refine gate_callee (f := 25) rfl ?_); refine goesL_ (some 30) rfl rfl Try.func25 (by kernel_rfl) rfl #[.agg #[.int .i64 t303, .slice Ao32 t304.length co32], .int .i64 1, .int .i64 1, .int .i64 1] rfl MP_ ?_; (with_reducible refine (zone_Let.calls k t303 _ _ t304 1 1 1 t309 t310 t313 _ ?side1 ?side2 A2.out).mono ?_); (case side1 => refine (Kd.R_reads' (e := 3) (base := w.heap.size) (ok := fun k_ => True) (n := t304.length) (c := co32) ?_).2.2; exact (rd_ (rf2_ HO306 BK308 (.int .i64 t303) (.slice Ao32 t304.length co32)))); (case side2 => exact (Kd.R_reads' HO306.out).2.1); rintro e w33 ⟨v311, rfl, ho0, hb⟩; refine ⟨_, rfl, ?_⟩; have n_ := a_ (Aside0.mk (Kd.R_below (rd_ (rf2_ HO302 BK308 (.int .i64 t303) (.slice Ao32 t304.length co32))) hb)) (a_ (Aside0.mk (Kd.R_elder' (rd_ (rf2_ HO306 BK308 (.int .i64 t303) (.slice Ao32 t304.length co32))) (Kd.R_base ho0) hb)) (a_ (Aside0.mk (Kd.R_lower (Kd.R_new' ho0 (Kd.R_lt (rd_ (rf2_ HO306 BK308 (.int .i64 t303) (.slice Ao32 t304.length co32))))) (below_size HB_))) (a_ (bc_ #[.int .i64 t303, .slice Ao32 t304.length co32] 24 BK308 hb) (bs_ HB hb)))); clear HO302 HO306 BK308 HB; obtain ⟨HO302, HO306, HO312, BK308, HB⟩ := n_; (try clear hb); (try clear hb2); (try clear hk); (try clear hi); (try clear ho0)) | ((with_reducible refine gate_dst (N := 3) rfl ?_); refine bx_ (N := 3) (cs := #[.int .i64 0, .slice none 0 0]) (t := 24) ?_; intro gb314 hg w34 hbox hb; have n_ := a_ (rb_ HO302 hb) (a_ (rb_ HO306 hb) (a_ (rb_ HO312 hb) (a_ (bb_ BK308 hb) (a_ (bs_ HB hb) (a_ (Aside0.mk hbox) (a_ (gs_ HB hg) (a_ (gs_ HB hg) (a_ (nl_ BK308 hg) (ng_ BK308 hg))))))))); clear HO302 HO306 HO312 BK308 HB; obtain ⟨HO302, HO306, HO312, BK308, HB, BK314, GW314, GE314, NB308_314, NB314_308⟩ := n_; clear hb hbox hg; have hnb35 := NB314_308.out; have hnc35 := NB308_314.out; obtain ⟨hcz36_0, hcz36_1, hfz36_0, hfz36_1⟩ := cz2_ BK314; obtain ⟨Ao37, co37, eo37⟩ := Kd.R_slice HO312.out; subst eo37) | ((with_reducible refine gate_callee (f := 26) rfl ?_); refine goesL_ (some 35) rfl rfl Try.func26 (by kernel_rfl) rfl #[.agg #[.int .i64 t309, .slice Ao37 t310.length co37], .int .i64 1] rfl MP_ ?_; (with_reducible refine (zone_Itv.calls k t309 _ _ t310 1 t315 t316 t317 _ ?side1 ?side2 A3.out).mono ?_); (case side1 => refine (Kd.R_reads' (e := 3) (base := w.heap.size) (ok := fun k_ => (True ∧ some k_ ≠ (.slice Ao32 t304.length co32 : Value).ownBlock)) (n := t310.length) (c := co37) ?_).2.2; exact (rd_ (rf2_ HO312 BK314 (.int .i64 t309) (.slice Ao37 t310.length co37)))); (case side2 => exact (Kd.R_reads' HO312.out).2.1); rintro e w38 ⟨rfl, hb⟩; refine ⟨_, rfl, ?_⟩; have n_ := a_ (Aside0.mk (Kd.R_below (rd_ (rf2_ HO302 BK314 (.int .i64 t309) (.slice Ao37 t310.length co37))) hb)) (a_ (Aside0.mk (Kd.R_below (rd_ (rf2_ HO306 BK314 (.int .i64 t309) (.slice Ao37 t310.length co37))) hb)) (a_ (Aside0.mk (Kd.R_below (rd_ (rf2_ HO312 BK314 (.int .i64 t309) (.slice Ao37 t310.length co37))) hb)) (a_ (bc_ #[.int .i64 t303, .slice Ao32 t304.length co32] 24 BK308 hb) (a_ (bc_ #[.int .i64 t309, .slice Ao37 t310.length co37] 24 BK314 hb) (bs_ HB hb))))); clear HO302 HO306 HO312 BK308 BK314 HB; obtain ⟨HO302, HO306, HO312, BK308, BK314, HB⟩ := n_; (try clear hb); (try clear hb2); (try clear hk); (try clear hi)) | ((with_reducible refine gate_dst (N := 5) rfl ?_); refine bx_ (N := 5) (cs := #[.int .i64 0, .int .i64 0]) (t := 39) ?_; intro gb318 hg w39 hbox hb; have n_ := a_ (Aside0.mk (Kd.R_below (Kd.R_elderB (rd_ HO302.out) gb318 (Nat.le_of_eq hg.symm)) hb)) (a_ (rb_ HO306 hb) (a_ (rb_ HO312 hb) (a_ (bb_ BK308 hb) (a_ (bb_ BK314 hb) (a_ (bs_ HB hb) (a_ (Aside0.mk hbox) (a_ (gs_ HB hg) (a_ (gs_ HB hg) (a_ (nl_ BK308 hg) (a_ (ng_ BK308 hg) (a_ (nl_ BK314 hg) (ng_ BK314 hg)))))))))))); clear HO302 HO306 HO312 BK308 BK314 HB; obtain ⟨HO302, HO306, HO312, BK308, BK314, HB, BK318, GW318, GE318, NB308_318, NB318_308, NB314_318, NB318_314⟩ := n_; clear hb hbox hg; have hnb40 := NB318_308.out; have hnc40 := NB308_318.out; have hnb41 := NB318_314.out; have hnc41 := NB314_318.out; obtain ⟨hcz42_0, hcz42_1, hfz42_0, hfz42_1⟩ := cz2_ BK318; obtain ⟨hcz43_0, hcz43_1, hfz43_0, hfz43_1⟩ := cz2_ BK308) | ((with_reducible refine gate_callee (f := 25) rfl ?_); refine goesL_ (some 40) rfl rfl Try.func25 (by kernel_rfl) rfl #[.agg #[.int .i64 t303, .slice Ao32 t304.length co32], .int .i64 1, .int .i64 2, .int .i64 (-1)] rfl MP_ ?_; (with_reducible refine (zone_Let.calls k t303 _ _ t304 1 2 (-1) t319 t320 t323 _ ?side1 ?side2 A4.out).mono ?_); (case side1 => refine (Kd.R_reads' (e := 3) (base := w.heap.size) (ok := fun k_ => (True ∧ some k_ ≠ (.slice Ao37 t310.length co37 : Value).ownBlock)) (n := t304.length) (c := co32) ?_).2.2; exact (rd_ (rf2_ HO306 BK318 (.int .i64 t315) (.int .i64 t316)))); (case side2 => exact (Kd.R_reads' HO306.out).2.1); rintro e w44 ⟨v321, rfl, ho0, hb⟩; refine ⟨_, rfl, ?_⟩; have n_ := a_ (Aside0.mk (Kd.R_below (rd_ (Kd.R_mono (Kd.R_far (p := ⟨gb318, 1, none⟩) (Kd.R_far (p := ⟨gb318, 0, none⟩) (Kd.R_mono HO302.out (fun k_ hk => (⟨hk, hk.2⟩ : _ ∧ k_ ≠ gb318))) (fun _ hk => hk.2) (.int .i64 t315)) (fun _ hk => hk.2) (.int .i64 t316)) (fun _ h_ => h_.1))) hb)) (a_ (Aside0.mk (Kd.R_elder' (rd_ (rf2_ HO306 BK318 (.int .i64 t315) (.int .i64 t316))) (Kd.R_base ho0) hb)) (a_ (Aside0.mk (Kd.R_elder' (rd_ (rf2_ HO312 BK318 (.int .i64 t315) (.int .i64 t316))) (Kd.R_base ho0) hb)) (a_ (Aside0.mk (Kd.R_lower (Kd.R_new' (Kd.R_new' ho0 (Kd.R_lt (rd_ (rf2_ HO306 BK318 (.int .i64 t315) (.int .i64 t316))))) (Kd.R_lt (rd_ (rf2_ HO312 BK318 (.int .i64 t315) (.int .i64 t316))))) (below_size HB_))) (a_ (bc_ #[.int .i64 t303, .slice Ao32 t304.length co32] 24 BK308 hb) (a_ (bc_ #[.int .i64 t309, .slice Ao37 t310.length co37] 24 BK314 hb) (a_ (bc_ #[.int .i64 t315, .int .i64 t316] 39 BK318 hb) (bs_ HB hb))))))); clear HO302 HO306 HO312 BK308 BK314 BK318 HB; obtain ⟨HO302, HO306, HO312, HO322, BK308, BK314, BK318, HB⟩ := n_; (try clear hb); (try clear hb2); (try clear hk); (try clear hi); (try clear ho0)) | ((with_reducible refine gate_dst (N := 7) rfl ?_); refine bx_ (N := 7) (cs := #[.int .i64 0, .slice none 0 0]) (t := 24) ?_; intro gb324 hg w45 hbox hb; have n_ := a_ (rb_ HO302 hb) (a_ (rb_ HO306 hb) (a_ (rb_ HO312 hb) (a_ (rb_ HO322 hb) (a_ (bb_ BK308 hb) (a_ (bb_ BK314 hb) (a_ (bb_ BK318 hb) (a_ (bs_ HB hb) (a_ (Aside0.mk hbox) (a_ (gs_ HB hg) (a_ (gs_ HB hg) (a_ (nl_ BK308 hg) (a_ (ng_ BK308 hg) (a_ (nl_ BK314 hg) (a_ (ng_ BK314 hg) (a_ (nl_ BK318 hg) (ng_ BK318 hg)))))))))))))))); clear HO302 HO306 HO312 HO322 BK308 BK314 BK318 HB; obtain ⟨HO302, HO306, HO312, HO322, BK308, BK314, BK318, HB, BK324, GW324, GE324, NB308_324, NB324_308, NB314_324, NB324_314, NB318_324, NB324_318⟩ := n_; clear hb hbox hg; have hnb46 := NB324_308.out; have hnc46 := NB308_324.out; have hnb47 := NB324_314.out; have hnc47 := NB314_324.out; have hnb48 := NB324_318.out; have hnc48 := NB318_324.out; obtain ⟨hcz49_0, hcz49_1, hfz49_0, hfz49_1⟩ := cz2_ BK324; obtain ⟨Ao50, co50, eo50⟩ := Kd.R_slice HO322.out; subst eo50) | ((with_reducible refine gate_callee (f := 47) rfl ?_); refine goesL_ (some 45) rfl rfl Try.func47 (by kernel_rfl) rfl #[.agg #[.int .i64 t319, .slice Ao50 t320.length co50], .int .i64 1, .int .i64 2] rfl MP_ ?_; (with_reducible refine (dbm_Bound.calls k t319 _ _ t320 1 2 t325 t326 _ ?side1 ?side2 A5.out).mono ?_); (case side1 => refine (Kd.R_reads' (e := 3) (base := w.heap.size) (ok := fun k_ => ((True ∧ some k_ ≠ (.slice Ao32 t304.length co32 : Value).ownBlock) ∧ some k_ ≠ (.slice Ao37 t310.length co37 : Value).ownBlock)) (n := t320.length) (c := co50) ?_).2.2; exact (rd_ (rf2_ HO322 BK324 (.int .i64 t319) (.slice Ao50 t320.length co50)))); (case side2 => exact (Kd.R_reads' HO322.out).2.1); rintro e w51 ⟨rfl, hb⟩; refine ⟨_, rfl, ?_⟩; have n_ := a_ (Aside0.mk (Kd.R_below (rd_ (rf2_ HO302 BK324 (.int .i64 t319) (.slice Ao50 t320.length co50))) hb)) (a_ (Aside0.mk (Kd.R_below (rd_ (rf2_ HO306 BK324 (.int .i64 t319) (.slice Ao50 t320.length co50))) hb)) (a_ (Aside0.mk (Kd.R_below (rd_ (rf2_ HO312 BK324 (.int .i64 t319) (.slice Ao50 t320.length co50))) hb)) (a_ (Aside0.mk (Kd.R_below (rd_ (rf2_ HO322 BK324 (.int .i64 t319) (.slice Ao50 t320.length co50))) hb)) (a_ (bc_ #[.int .i64 t303, .slice Ao32 t304.length co32] 24 BK308 hb) (a_ (bc_ #[.int .i64 t309, .slice Ao37 t310.length co37] 24 BK314 hb) (a_ (bc_ #[.int .i64 t315, .int .i64 t316] 39 BK318 hb) (a_ (bc_ #[.int .i64 t319, .slice Ao50 t320.length co50] 24 BK324 hb) (bs_ HB hb)))))))); clear HO302 HO306 HO312 HO322 BK308 BK314 BK318 BK324 HB; obtain ⟨HO302, HO306, HO312, HO322, BK308, BK314, BK318, BK324, HB⟩ := n_; (try clear hb); (try clear hb2); (try clear hk); (try clear hi); obtain ⟨hcz52_0, hcz52_1, hfz52_0, hfz52_1⟩ := cz2_ BK314; obtain ⟨hcz53_0, hcz53_1, hfz53_0, hfz53_1⟩ := cz2_ BK308) | ((with_reducible refine gate_callee (f := 36) rfl ?_); refine goesL_ (some 51) rfl rfl Try.func36 (by kernel_rfl) rfl #[.agg #[.int .i64 t309, .slice Ao37 t310.length co37], .agg #[.int .i64 t303, .slice Ao32 t304.length co32]] rfl MP_ ?_; (with_reducible refine (zone_Leq.calls k t309 _ _ t310 t303 _ _ t304 true t328 _ ?side1 ?side2 ?side3 ?side4 A6.out).mono ?_); (case side1 => repeat (first | exact (Kd.R_reads' HO312.out).2.2 | (with_reducible refine Kd.C_alloc ?_ _) | (with_reducible refine Kd.C_drewN ?_ _) | (with_reducible refine Kd.C_drew ?_))); (case side2 => exact (Kd.R_reads' HO312.out).2.1); (case side3 => repeat (first | exact (Kd.R_reads' HO306.out).2.2 | (with_reducible refine Kd.C_alloc ?_ _) | (with_reducible refine Kd.C_drewN ?_ _) | (with_reducible refine Kd.C_drew ?_))); (case side4 => exact (Kd.R_reads' HO306.out).2.1); rintro e w54 ⟨rfl, hb⟩; refine ⟨_, rfl, ?_⟩; have n_ := a_ (rb_ HO302 hb) (a_ (rb_ HO306 hb) (a_ (rb_ HO312 hb) (a_ (rb_ HO322 hb) (a_ (bb_ BK308 hb) (a_ (bb_ BK314 hb) (a_ (bb_ BK318 hb) (a_ (bb_ BK324 hb) (bs_ HB hb)))))))); clear HO302 HO306 HO312 HO322 BK308 BK314 BK318 BK324 HB; obtain ⟨HO302, HO306, HO312, HO322, BK308, BK314, BK318, BK324, HB⟩ := n_; (try clear hb); (try clear hb2); (try clear hk); (try clear hi); obtain ⟨hcz55_0, hcz55_1, hfz55_0, hfz55_1⟩ := cz2_ BK308; obtain ⟨hcz56_0, hcz56_1, hfz56_0, hfz56_1⟩ := cz2_ BK324) | ((with_reducible refine gate_callee (f := 37) rfl ?_); refine goesL_ (some 57) rfl rfl Try.func37 (by kernel_rfl) rfl #[.agg #[.int .i64 t303, .slice Ao32 t304.length co32], .agg #[.int .i64 t319, .slice Ao50 t320.length co50]] rfl MP_ ?_; (with_reducible refine (zone_Meet.calls k t303 _ _ t304 t319 _ _ t320 t329 t330 t333 _ ?side1 ?side2 ?side3 ?side4 A7.out).mono ?_); (case side1 => repeat (first | exact (Kd.R_reads' HO306.out).2.2 | (with_reducible refine Kd.C_alloc ?_ _) | (with_reducible refine Kd.C_drewN ?_ _) | (with_reducible refine Kd.C_drew ?_))); (case side2 => exact (Kd.R_reads' HO306.out).2.1); (case side3 => repeat (first | exact (Kd.R_reads' HO322.out).2.2 | (with_reducible refine Kd.C_alloc ?_ _) | (with_reducible refine Kd.C_drewN ?_ _) | (with_reducible refine Kd.C_drew ?_))); (case side4 => exact (Kd.R_reads' HO322.out).2.1); rintro e w57 ⟨v331, rfl, ho0, hb⟩; refine ⟨_, rfl, ?_⟩; have n_ := a_ (rb_ HO302 hb) (a_ (Aside0.mk (Kd.R_elder' (rd_ HO306.out) (Kd.R_base ho0) hb)) (a_ (Aside0.mk (Kd.R_elder' (rd_ HO312.out) (Kd.R_base ho0) hb)) (a_ (Aside0.mk (Kd.R_elder' (rd_ HO322.out) (Kd.R_base ho0) hb)) (a_ (Aside0.mk (Kd.R_lower (Kd.R_new' (Kd.R_new' (Kd.R_new' ho0 (Kd.R_lt (rd_ HO306.out))) (Kd.R_lt (rd_ HO312.out))) (Kd.R_lt (rd_ HO322.out))) (below_size HB_))) (a_ (bb_ BK308 hb) (a_ (bb_ BK314 hb) (a_ (bb_ BK318 hb) (a_ (bb_ BK324 hb) (bs_ HB hb))))))))); clear HO302 HO306 HO312 HO322 BK308 BK314 BK318 BK324 HB; obtain ⟨HO302, HO306, HO312, HO322, HO332, BK308, BK314, BK318, BK324, HB⟩ := n_; (try clear hb); (try clear hb2); (try clear hk); (try clear hi); (try clear ho0)) | ((with_reducible refine gate_dst (N := 13) rfl ?_); refine bx_ (N := 13) (cs := #[.int .i64 0, .slice none 0 0]) (t := 24) ?_; intro gb334 hg w58 hbox hb; have n_ := a_ (rb_ HO302 hb) (a_ (rb_ HO306 hb) (a_ (rb_ HO312 hb) (a_ (rb_ HO322 hb) (a_ (rb_ HO332 hb) (a_ (bb_ BK308 hb) (a_ (bb_ BK314 hb) (a_ (bb_ BK318 hb) (a_ (bb_ BK324 hb) (a_ (bs_ HB hb) (a_ (Aside0.mk hbox) (a_ (gs_ HB hg) (a_ (gs_ HB hg) (a_ (nl_ BK308 hg) (a_ (ng_ BK308 hg) (a_ (nl_ BK314 hg) (a_ (ng_ BK314 hg) (a_ (nl_ BK318 hg) (a_ (ng_ BK318 hg) (a_ (nl_ BK324 hg) (ng_ BK324 hg)))))))))))))))))))); clear HO302 HO306 HO312 HO322 HO332 BK308 BK314 BK318 BK324 HB; obtain ⟨HO302, HO306, HO312, HO322, HO332, BK308, BK314, BK318, BK324, HB, BK334, GW334, GE334, NB308_334, NB334_308, NB314_334, NB334_314, NB318_334, NB334_318, NB324_334, NB334_324⟩ := n_; clear hb hbox hg; have hnb59 := NB334_308.out; have hnc59 := NB308_334.out; have hnb60 := NB334_314.out; have hnc60 := NB314_334.out; have hnb61 := NB334_318.out; have hnc61 := NB318_334.out; have hnb62 := NB334_324.out; have hnc62 := NB324_334.out; obtain ⟨hcz63_0, hcz63_1, hfz63_0, hfz63_1⟩ := cz2_ BK334; obtain ⟨Ao64, co64, eo64⟩ := Kd.R_slice HO332.out; subst eo64; obtain ⟨hcz65_0, hcz65_1, hfz65_0, hfz65_1⟩ := cz2_ BK308; obtain ⟨hcz66_0, hcz66_1, hfz66_0, hfz66_1⟩ := cz2_ BK324) | ((with_reducible refine gate_callee (f := 35) rfl ?_); refine goesL_ (some 63) rfl rfl Try.func35 (by kernel_rfl) rfl #[.agg #[.int .i64 t303, .slice Ao32 t304.length co32], .agg #[.int .i64 t319, .slice Ao50 t320.length co50]] rfl MP_ ?_; (with_reducible refine (zone_Join.calls k t303 _ _ t304 t319 _ _ t320 t335 t336 t339 _ ?side1 ?side2 ?side3 ?side4 A8.out).mono ?_); (case side1 => refine (Kd.R_reads' (e := 3) (base := w.heap.size) (ok := fun k_ => (((True ∧ some k_ ≠ (.slice Ao37 t310.length co37 : Value).ownBlock) ∧ some k_ ≠ (.slice Ao50 t320.length co50 : Value).ownBlock) ∧ some k_ ≠ (.slice Ao64 t330.length co64 : Value).ownBlock)) (n := t304.length) (c := co32) ?_).2.2; exact (rd_ (rf2_ HO306 BK334 (.int .i64 t329) (.slice Ao64 t330.length co64)))); (case side2 => exact (Kd.R_reads' HO306.out).2.1); (case side3 => refine (Kd.R_reads' (e := 3) (base := w.heap.size) (ok := fun k_ => (((True ∧ some k_ ≠ (.slice Ao32 t304.length co32 : Value).ownBlock) ∧ some k_ ≠ (.slice Ao37 t310.length co37 : Value).ownBlock) ∧ some k_ ≠ (.slice Ao64 t330.length co64 : Value).ownBlock)) (n := t320.length) (c := co50) ?_).2.2; exact (rd_ (rf2_ HO322 BK334 (.int .i64 t329) (.slice Ao64 t330.length co64)))); (case side4 => exact (Kd.R_reads' HO322.out).2.1); rintro e w67 ⟨v337, rfl, ho0, hb⟩; refine ⟨_, rfl, ?_⟩; have n_ := a_ (Aside0.mk (Kd.R_below (rd_ (rf2_ HO302 BK334 (.int .i64 t329) (.slice Ao64 t330.length co64))) hb)) (a_ (Aside0.mk (Kd.R_elder' (rd_ (rf2_ HO306 BK334 (.int .i64 t329) (.slice Ao64 t330.length co64))) (Kd.R_base ho0) hb)) (a_ (Aside0.mk (Kd.R_elder' (rd_ (rf2_ HO312 BK334 (.int .i64 t329) (.slice Ao64 t330.length co64))) (Kd.R_base ho0) hb)) (a_ (Aside0.mk (Kd.R_elder' (rd_ (rf2_ HO322 BK334 (.int .i64 t329) (.slice Ao64 t330.length co64))) (Kd.R_base ho0) hb)) (a_ (Aside0.mk (Kd.R_elder' (rd_ (rf2_ HO332 BK334 (.int .i64 t329) (.slice Ao64 t330.length co64))) (Kd.R_base ho0) hb)) (a_ (Aside0.mk (Kd.R_lower (Kd.R_new' (Kd.R_new' (Kd.R_new' (Kd.R_new' ho0 (Kd.R_lt (rd_ (rf2_ HO306 BK334 (.int .i64 t329) (.slice Ao64 t330.length co64))))) (Kd.R_lt (rd_ (rf2_ HO312 BK334 (.int .i64 t329) (.slice Ao64 t330.length co64))))) (Kd.R_lt (rd_ (rf2_ HO322 BK334 (.int .i64 t329) (.slice Ao64 t330.length co64))))) (Kd.R_lt (rd_ (rf2_ HO332 BK334 (.int .i64 t329) (.slice Ao64 t330.length co64))))) (below_size HB_))) (a_ (bc_ #[.int .i64 t303, .slice Ao32 t304.length co32] 24 BK308 hb) (a_ (bc_ #[.int .i64 t309, .slice Ao37 t310.length co37] 24 BK314 hb) (a_ (bc_ #[.int .i64 t315, .int .i64 t316] 39 BK318 hb) (a_ (bc_ #[.int .i64 t319, .slice Ao50 t320.length co50] 24 BK324 hb) (a_ (bc_ #[.int .i64 t329, .slice Ao64 t330.length co64] 24 BK334 hb) (bs_ HB hb))))))))))); clear HO302 HO306 HO312 HO322 HO332 BK308 BK314 BK318 BK324 BK334 HB; obtain ⟨HO302, HO306, HO312, HO322, HO332, HO338, BK308, BK314, BK318, BK324, BK334, HB⟩ := n_; (try clear hb); (try clear hb2); (try clear hk); (try clear hi); (try clear ho0)) | ((with_reducible refine gate_dst (N := 15) rfl ?_); refine bx_ (N := 15) (cs := #[.int .i64 0, .slice none 0 0]) (t := 24) ?_; intro gb340 hg w68 hbox hb; have n_ := a_ (rb_ HO302 hb) (a_ (rb_ HO306 hb) (a_ (rb_ HO312 hb) (a_ (rb_ HO322 hb) (a_ (rb_ HO332 hb) (a_ (rb_ HO338 hb) (a_ (bb_ BK308 hb) (a_ (bb_ BK314 hb) (a_ (bb_ BK318 hb) (a_ (bb_ BK324 hb) (a_ (bb_ BK334 hb) (a_ (bs_ HB hb) (a_ (Aside0.mk hbox) (a_ (gs_ HB hg) (a_ (gs_ HB hg) (a_ (nl_ BK308 hg) (a_ (ng_ BK308 hg) (a_ (nl_ BK314 hg) (a_ (ng_ BK314 hg) (a_ (nl_ BK318 hg) (a_ (ng_ BK318 hg) (a_ (nl_ BK324 hg) (a_ (ng_ BK324 hg) (a_ (nl_ BK334 hg) (ng_ BK334 hg)))))))))))))))))))))))); clear HO302 HO306 HO312 HO322 HO332 HO338 BK308 BK314 BK318 BK324 BK334 HB; obtain ⟨HO302, HO306, HO312, HO322, HO332, HO338, BK308, BK314, BK318, BK324, BK334, HB, BK340, GW340, GE340, NB308_340, NB340_308, NB314_340, NB340_314, NB318_340, NB340_318, NB324_340, NB340_324, NB334_340, NB340_334⟩ := n_; clear hb hbox hg; have hnb69 := NB340_308.out; have hnc69 := NB308_340.out; have hnb70 := NB340_314.out; have hnc70 := NB314_340.out; have hnb71 := NB340_318.out; have hnc71 := NB318_340.out; have hnb72 := NB340_324.out; have hnc72 := NB324_340.out; have hnb73 := NB340_334.out; have hnc73 := NB334_340.out; obtain ⟨hcz74_0, hcz74_1, hfz74_0, hfz74_1⟩ := cz2_ BK340; obtain ⟨Ao75, co75, eo75⟩ := Kd.R_slice HO338.out; subst eo75; obtain ⟨hcz76_0, hcz76_1, hfz76_0, hfz76_1⟩ := cz2_ BK308) | ((with_reducible refine gate_callee (f := 23) rfl ?_); refine goesL_ (some 68) rfl rfl Try.func23 (by kernel_rfl) rfl #[.agg #[.int .i64 t303, .slice Ao32 t304.length co32], .int .i64 0, .int .i64 3, .int .i64 1] rfl MP_ ?_; (with_reducible refine (zone_Limit.calls k t303 _ _ t304 0 3 1 t341 t342 t345 _ ?side1 ?side2 A9.out).mono ?_); (case side1 => refine (Kd.R_reads' (e := 3) (base := w.heap.size) (ok := fun k_ => ((((True ∧ some k_ ≠ (.slice Ao37 t310.length co37 : Value).ownBlock) ∧ some k_ ≠ (.slice Ao50 t320.length co50 : Value).ownBlock) ∧ some k_ ≠ (.slice Ao64 t330.length co64 : Value).ownBlock) ∧ some k_ ≠ (.slice Ao75 t336.length co75 : Value).ownBlock)) (n := t304.length) (c := co32) ?_).2.2; exact (rd_ (rf2_ HO306 BK340 (.int .i64 t335) (.slice Ao75 t336.length co75)))); (case side2 => exact (Kd.R_reads' HO306.out).2.1); rintro e w77 ⟨v343, rfl, ho0, hb⟩; refine ⟨_, rfl, ?_⟩; have n_ := a_ (Aside0.mk (Kd.R_below (rd_ (rf2_ HO302 BK340 (.int .i64 t335) (.slice Ao75 t336.length co75))) hb)) (a_ (Aside0.mk (Kd.R_elder' (rd_ (rf2_ HO306 BK340 (.int .i64 t335) (.slice Ao75 t336.length co75))) (Kd.R_base ho0) hb)) (a_ (Aside0.mk (Kd.R_elder' (rd_ (rf2_ HO312 BK340 (.int .i64 t335) (.slice Ao75 t336.length co75))) (Kd.R_base ho0) hb)) (a_ (Aside0.mk (Kd.R_elder' (rd_ (rf2_ HO322 BK340 (.int .i64 t335) (.slice Ao75 t336.length co75))) (Kd.R_base ho0) hb)) (a_ (Aside0.mk (Kd.R_elder' (rd_ (rf2_ HO332 BK340 (.int .i64 t335) (.slice Ao75 t336.length co75))) (Kd.R_base ho0) hb)) (a_ (Aside0.mk (Kd.R_elder' (rd_ (rf2_ HO338 BK340 (.int .i64 t335) (.slice Ao75 t336.length co75))) (Kd.R_base ho0) hb)) (a_ (Aside0.mk (Kd.R_lower (Kd.R_new' (Kd.R_new' (Kd.R_new' (Kd.R_new' (Kd.R_new' ho0 (Kd.R_lt (rd_ (rf2_ HO306 BK340 (.int .i64 t335) (.slice Ao75 t336.length co75))))) (Kd.R_lt (rd_ (rf2_ HO312 BK340 (.int .i64 t335) (.slice Ao75 t336.length co75))))) (Kd.R_lt (rd_ (rf2_ HO322 BK340 (.int .i64 t335) (.slice Ao75 t336.length co75))))) (Kd.R_lt (rd_ (rf2_ HO332 BK340 (.int .i64 t335) (.slice Ao75 t336.length co75))))) (Kd.R_lt (rd_ (rf2_ HO338 BK340 (.int .i64 t335) (.slice Ao75 t336.length co75))))) (below_size HB_))) (a_ (bc_ #[.int .i64 t303, .slice Ao32 t304.length co32] 24 BK308 hb) (a_ (bc_ #[.int .i64 t309, .slice Ao37 t310.length co37] 24 BK314 hb) (a_ (bc_ #[.int .i64 t315, .int .i64 t316] 39 BK318 hb) (a_ (bc_ #[.int .i64 t319, .slice Ao50 t320.length co50] 24 BK324 hb) (a_ (bc_ #[.int .i64 t329, .slice Ao64 t330.length co64] 24 BK334 hb) (a_ (bc_ #[.int .i64 t335, .slice Ao75 t336.length co75] 24 BK340 hb) (bs_ HB hb))))))))))))); clear HO302 HO306 HO312 HO322 HO332 HO338 BK308 BK314 BK318 BK324 BK334 BK340 HB; obtain ⟨HO302, HO306, HO312, HO322, HO332, HO338, HO344, BK308, BK314, BK318, BK324, BK334, BK340, HB⟩ := n_; (try clear hb); (try clear hb2); (try clear hk); (try clear hi); (try clear ho0)) | ((with_reducible refine gate_dst (N := 17) rfl ?_); refine bx_ (N := 17) (cs := #[.int .i64 0, .slice none 0 0]) (t := 24) ?_; intro gb346 hg w78 hbox hb; have n_ := a_ (rb_ HO302 hb) (a_ (rb_ HO306 hb) (a_ (rb_ HO312 hb) (a_ (rb_ HO322 hb) (a_ (rb_ HO332 hb) (a_ (rb_ HO338 hb) (a_ (rb_ HO344 hb) (a_ (bb_ BK308 hb) (a_ (bb_ BK314 hb) (a_ (bb_ BK318 hb) (a_ (bb_ BK324 hb) (a_ (bb_ BK334 hb) (a_ (bb_ BK340 hb) (a_ (bs_ HB hb) (a_ (Aside0.mk hbox) (a_ (gs_ HB hg) (a_ (gs_ HB hg) (a_ (nl_ BK308 hg) (a_ (ng_ BK308 hg) (a_ (nl_ BK314 hg) (a_ (ng_ BK314 hg) (a_ (nl_ BK318 hg) (a_ (ng_ BK318 hg) (a_ (nl_ BK324 hg) (a_ (ng_ BK324 hg) (a_ (nl_ BK334 hg) (a_ (ng_ BK334 hg) (a_ (nl_ BK340 hg) (ng_ BK340 hg)))))))))))))))))))))))))))); clear HO302 HO306 HO312 HO322 HO332 HO338 HO344 BK308 BK314 BK318 BK324 BK334 BK340 HB; obtain ⟨HO302, HO306, HO312, HO322, HO332, HO338, HO344, BK308, BK314, BK318, BK324, BK334, BK340, HB, BK346, GW346, GE346, NB308_346, NB346_308, NB314_346, NB346_314, NB318_346, NB346_318, NB324_346, NB346_324, NB334_346, NB346_334, NB340_346, NB346_340⟩ := n_; clear hb hbox hg; have hnb79 := NB346_308.out; have hnc79 := NB308_346.out; have hnb80 := NB346_314.out; have hnc80 := NB314_346.out; have hnb81 := NB346_318.out; have hnc81 := NB318_346.out; have hnb82 := NB346_324.out; have hnc82 := NB324_346.out; have hnb83 := NB346_334.out; have hnc83 := NB334_346.out; have hnb84 := NB346_340.out; have hnc84 := NB340_346.out; obtain ⟨hcz85_0, hcz85_1, hfz85_0, hfz85_1⟩ := cz2_ BK346; obtain ⟨Ao86, co86, eo86⟩ := Kd.R_slice HO344.out; subst eo86) | ((with_reducible refine gate_callee (f := 24) rfl ?_); refine goesL_ (some 73) rfl rfl Try.func24 (by kernel_rfl) rfl #[.agg #[.int .i64 9, .slice none 0 0], .int .i64 1] rfl MP_ ?_; (refine (zone_Forget.calls k 9 _ _ ([] : List Int) 1 t347 t348 t351 _ ?side1 ?side2 A10.out).mono ?_); (case side1 => exact Kd.C_nil _ _); (case side2 => exact Nat.le_refl _); rintro e w87 ⟨v349, rfl, ho0, hb⟩; refine ⟨_, rfl, ?_⟩; have n_ := a_ (Aside0.mk (Kd.R_below (rd_ (rf2_ HO302 BK346 (.int .i64 t341) (.slice Ao86 t342.length co86))) hb)) (a_ (Aside0.mk (Kd.R_elder' (rd_ (rf2_ HO306 BK346 (.int .i64 t341) (.slice Ao86 t342.length co86))) (Kd.R_base ho0) hb)) (a_ (Aside0.mk (Kd.R_elder' (rd_ (rf2_ HO312 BK346 (.int .i64 t341) (.slice Ao86 t342.length co86))) (Kd.R_base ho0) hb)) (a_ (Aside0.mk (Kd.R_elder' (rd_ (rf2_ HO322 BK346 (.int .i64 t341) (.slice Ao86 t342.length co86))) (Kd.R_base ho0) hb)) (a_ (Aside0.mk (Kd.R_elder' (rd_ (rf2_ HO332 BK346 (.int .i64 t341) (.slice Ao86 t342.length co86))) (Kd.R_base ho0) hb)) (a_ (Aside0.mk (Kd.R_elder' (rd_ (rf2_ HO338 BK346 (.int .i64 t341) (.slice Ao86 t342.length co86))) (Kd.R_base ho0) hb)) (a_ (Aside0.mk (Kd.R_elder' (rd_ (rf2_ HO344 BK346 (.int .i64 t341) (.slice Ao86 t342.length co86))) (Kd.R_base ho0) hb)) (a_ (Aside0.mk (Kd.R_lower (Kd.R_new' (Kd.R_new' (Kd.R_new' (Kd.R_new' (Kd.R_new' (Kd.R_new' ho0 (Kd.R_lt (rd_ (rf2_ HO306 BK346 (.int .i64 t341) (.slice Ao86 t342.length co86))))) (Kd.R_lt (rd_ (rf2_ HO312 BK346 (.int .i64 t341) (.slice Ao86 t342.length co86))))) (Kd.R_lt (rd_ (rf2_ HO322 BK346 (.int .i64 t341) (.slice Ao86 t342.length co86))))) (Kd.R_lt (rd_ (rf2_ HO332 BK346 (.int .i64 t341) (.slice Ao86 t342.length co86))))) (Kd.R_lt (rd_ (rf2_ HO338 BK346 (.int .i64 t341) (.slice Ao86 t342.length co86))))) (Kd.R_lt (rd_ (rf2_ HO344 BK346 (.int .i64 t341) (.slice Ao86 t342.length co86))))) (below_size HB_))) (a_ (bc_ #[.int .i64 t303, .slice Ao32 t304.length co32] 24 BK308 hb) (a_ (bc_ #[.int .i64 t309, .slice Ao37 t310.length co37] 24 BK314 hb) (a_ (bc_ #[.int .i64 t315, .int .i64 t316] 39 BK318 hb) (a_ (bc_ #[.int .i64 t319, .slice Ao50 t320.length co50] 24 BK324 hb) (a_ (bc_ #[.int .i64 t329, .slice Ao64 t330.length co64] 24 BK334 hb) (a_ (bc_ #[.int .i64 t335, .slice Ao75 t336.length co75] 24 BK340 hb) (a_ (bc_ #[.int .i64 t341, .slice Ao86 t342.length co86] 24 BK346 hb) (bs_ HB hb))))))))))))))); clear HO302 HO306 HO312 HO322 HO332 HO338 HO344 BK308 BK314 BK318 BK324 BK334 BK340 BK346 HB; obtain ⟨HO302, HO306, HO312, HO322, HO332, HO338, HO344, HO350, BK308, BK314, BK318, BK324, BK334, BK340, BK346, HB⟩ := n_; (try clear hb); (try clear hb2); (try clear hk); (try clear hi); (try clear ho0)) | ((with_reducible refine gate_dst (N := 19) rfl ?_); refine bx_ (N := 19) (cs := #[.int .i64 0, .slice none 0 0]) (t := 24) ?_; intro gb352 hg w88 hbox hb; have n_ := a_ (rb_ HO302 hb) (a_ (rb_ HO306 hb) (a_ (rb_ HO312 hb) (a_ (rb_ HO322 hb) (a_ (rb_ HO332 hb) (a_ (rb_ HO338 hb) (a_ (rb_ HO344 hb) (a_ (rb_ HO350 hb) (a_ (bb_ BK308 hb) (a_ (bb_ BK314 hb) (a_ (bb_ BK318 hb) (a_ (bb_ BK324 hb) (a_ (bb_ BK334 hb) (a_ (bb_ BK340 hb) (a_ (bb_ BK346 hb) (a_ (bs_ HB hb) (a_ (Aside0.mk hbox) (a_ (gs_ HB hg) (a_ (gs_ HB hg) (a_ (nl_ BK308 hg) (a_ (ng_ BK308 hg) (a_ (nl_ BK314 hg) (a_ (ng_ BK314 hg) (a_ (nl_ BK318 hg) (a_ (ng_ BK318 hg) (a_ (nl_ BK324 hg) (a_ (ng_ BK324 hg) (a_ (nl_ BK334 hg) (a_ (ng_ BK334 hg) (a_ (nl_ BK340 hg) (a_ (ng_ BK340 hg) (a_ (nl_ BK346 hg) (ng_ BK346 hg)))))))))))))))))))))))))))))))); clear HO302 HO306 HO312 HO322 HO332 HO338 HO344 HO350 BK308 BK314 BK318 BK324 BK334 BK340 BK346 HB; obtain ⟨HO302, HO306, HO312, HO322, HO332, HO338, HO344, HO350, BK308, BK314, BK318, BK324, BK334, BK340, BK346, HB, BK352, GW352, GE352, NB308_352, NB352_308, NB314_352, NB352_314, NB318_352, NB352_318, NB324_352, NB352_324, NB334_352, NB352_334, NB340_352, NB352_340, NB346_352, NB352_346⟩ := n_; clear hb hbox hg; have hnb89 := NB352_308.out; have hnc89 := NB308_352.out; have hnb90 := NB352_314.out; have hnc90 := NB314_352.out; have hnb91 := NB352_318.out; have hnc91 := NB318_352.out; have hnb92 := NB352_324.out; have hnc92 := NB324_352.out; have hnb93 := NB352_334.out; have hnc93 := NB334_352.out; have hnb94 := NB352_340.out; have hnc94 := NB340_352.out; have hnb95 := NB352_346.out; have hnc95 := NB346_352.out; obtain ⟨hcz96_0, hcz96_1, hfz96_0, hfz96_1⟩ := cz2_ BK352; obtain ⟨Ao97, co97, eo97⟩ := Kd.R_slice HO350.out; subst eo97; obtain ⟨hcz98_0, hcz98_1, hfz98_0, hfz98_1⟩ := cz2_ BK318; obtain ⟨hcz99_0, hcz99_1, hfz99_0, hfz99_1⟩ := cz2_ BK334; obtain ⟨hcz100_0, hcz100_1, hfz100_0, hfz100_1⟩ := cz2_ BK324) | (go_at_call 63; (with_reducible refine (dbm_Same.calls k t329 _ _ t330 t319 _ _ t320 true _ ?side1 ?side2 ?side3 ?side4 A20.out).mono ?_); (case side1 => refine (Kd.R_reads' (e := 3) (base := w.heap.size) (ok := fun k_ => ((((((True ∧ some k_ ≠ (.slice Ao32 t304.length co32 : Value).ownBlock) ∧ some k_ ≠ (.slice Ao37 t310.length co37 : Value).ownBlock) ∧ some k_ ≠ (.slice Ao50 t320.length co50 : Value).ownBlock) ∧ some k_ ≠ (.slice Ao75 t336.length co75 : Value).ownBlock) ∧ some k_ ≠ (.slice Ao86 t342.length co86 : Value).ownBlock) ∧ some k_ ≠ (.slice Ao97 t348.length co97 : Value).ownBlock)) (n := t330.length) (c := co64) ?_).2.2; exact (rd_ (rf2_ HO332 BK352 (.int .i64 t347) (.slice Ao97 t348.length co97)))); (case side2 => exact (Kd.R_reads' HO332.out).2.1); (case side3 => refine (Kd.R_reads' (e := 3) (base := w.heap.size) (ok := fun k_ => ((((((True ∧ some k_ ≠ (.slice Ao32 t304.length co32 : Value).ownBlock) ∧ some k_ ≠ (.slice Ao37 t310.length co37 : Value).ownBlock) ∧ some k_ ≠ (.slice Ao64 t330.length co64 : Value).ownBlock) ∧ some k_ ≠ (.slice Ao75 t336.length co75 : Value).ownBlock) ∧ some k_ ≠ (.slice Ao86 t342.length co86 : Value).ownBlock) ∧ some k_ ≠ (.slice Ao97 t348.length co97 : Value).ownBlock)) (n := t320.length) (c := co50) ?_).2.2; exact (rd_ (rf2_ HO322 BK352 (.int .i64 t347) (.slice Ao97 t348.length co97)))); (case side4 => exact (Kd.R_reads' HO322.out).2.1); rintro e w101 ⟨rfl, hb⟩; have n_ := a_ (Aside0.mk (Kd.R_below (rd_ (rf2_ HO302 BK352 (.int .i64 t347) (.slice Ao97 t348.length co97))) hb)) (a_ (Aside0.mk (Kd.R_below (rd_ (rf2_ HO306 BK352 (.int .i64 t347) (.slice Ao97 t348.length co97))) hb)) (a_ (Aside0.mk (Kd.R_below (rd_ (rf2_ HO312 BK352 (.int .i64 t347) (.slice Ao97 t348.length co97))) hb)) (a_ (Aside0.mk (Kd.R_below (rd_ (rf2_ HO322 BK352 (.int .i64 t347) (.slice Ao97 t348.length co97))) hb)) (a_ (Aside0.mk (Kd.R_below (rd_ (rf2_ HO332 BK352 (.int .i64 t347) (.slice Ao97 t348.length co97))) hb)) (a_ (Aside0.mk (Kd.R_below (rd_ (rf2_ HO338 BK352 (.int .i64 t347) (.slice Ao97 t348.length co97))) hb)) (a_ (Aside0.mk (Kd.R_below (rd_ (rf2_ HO344 BK352 (.int .i64 t347) (.slice Ao97 t348.length co97))) hb)) (a_ (Aside0.mk (Kd.R_below (rd_ (rf2_ HO350 BK352 (.int .i64 t347) (.slice Ao97 t348.length co97))) hb)) (a_ (bc_ #[.int .i64 t303, .slice Ao32 t304.length co32] 24 BK308 hb) (a_ (bc_ #[.int .i64 t309, .slice Ao37 t310.length co37] 24 BK314 hb) (a_ (bc_ #[.int .i64 t315, .int .i64 t316] 39 BK318 hb) (a_ (bc_ #[.int .i64 t319, .slice Ao50 t320.length co50] 24 BK324 hb) (a_ (bc_ #[.int .i64 t329, .slice Ao64 t330.length co64] 24 BK334 hb) (a_ (bc_ #[.int .i64 t335, .slice Ao75 t336.length co75] 24 BK340 hb) (a_ (bc_ #[.int .i64 t341, .slice Ao86 t342.length co86] 24 BK346 hb) (a_ (bc_ #[.int .i64 t347, .slice Ao97 t348.length co97] 24 BK352 hb) (bs_ HB hb)))))))))))))))); clear HO302 HO306 HO312 HO322 HO332 HO338 HO344 HO350 BK308 BK314 BK318 BK324 BK334 BK340 BK346 BK352 HB; obtain ⟨HO302, HO306, HO312, HO322, HO332, HO338, HO344, HO350, BK308, BK314, BK318, BK324, BK334, BK340, BK346, BK352, HB⟩ := n_; (try clear hb); (try clear hb2); (try clear hk); (try clear hi); obtain ⟨hcz102_0, hcz102_1, hfz102_0, hfz102_1⟩ := cz2_ BK340; obtain ⟨hcz103_0, hcz103_1, hfz103_0, hfz103_1⟩ := cz2_ BK308) | (go_at_call 63; (with_reducible refine (dbm_Same.calls k t335 _ _ t336 t303 _ _ t304 true _ ?side1 ?side2 ?side3 ?side4 A23.out).mono ?_); (case side1 => repeat (first | exact (Kd.R_reads' HO338.out).2.2 | (with_reducible refine Kd.C_alloc ?_ _) | (with_reducible refine Kd.C_drewN ?_ _) | (with_reducible refine Kd.C_drew ?_))); (case side2 => exact (Kd.R_reads' HO338.out).2.1); (case side3 => repeat (first | exact (Kd.R_reads' HO306.out).2.2 | (with_reducible refine Kd.C_alloc ?_ _) | (with_reducible refine Kd.C_drewN ?_ _) | (with_reducible refine Kd.C_drew ?_))); (case side4 => exact (Kd.R_reads' HO306.out).2.1); rintro e w104 ⟨rfl, hb⟩; have n_ := a_ (rb_ HO302 hb) (a_ (rb_ HO306 hb) (a_ (rb_ HO312 hb) (a_ (rb_ HO322 hb) (a_ (rb_ HO332 hb) (a_ (rb_ HO338 hb) (a_ (rb_ HO344 hb) (a_ (rb_ HO350 hb) (a_ (bb_ BK308 hb) (a_ (bb_ BK314 hb) (a_ (bb_ BK318 hb) (a_ (bb_ BK324 hb) (a_ (bb_ BK334 hb) (a_ (bb_ BK340 hb) (a_ (bb_ BK346 hb) (a_ (bb_ BK352 hb) (bs_ HB hb)))))))))))))))); clear HO302 HO306 HO312 HO322 HO332 HO338 HO344 HO350 BK308 BK314 BK318 BK324 BK334 BK340 BK346 BK352 HB; obtain ⟨HO302, HO306, HO312, HO322, HO332, HO338, HO344, HO350, BK308, BK314, BK318, BK324, BK334, BK340, BK346, BK352, HB⟩ := n_; (try clear hb); (try clear hb2); (try clear hk); (try clear hi)))
  go_step
  (try simp only [List.append_eq, List.cons_append, List.nil_append])
  go_wp2_with (first |  (go_at_call 63; (with_reducible refine (dbm_Same.calls k t329 _ _ t330 t319 _ _ t320 true _ ?side1 ?side2 ?side3 ?side4 A20.out).mono ?_); (case side1 => refine (Kd.R_reads' (e := 3) (base := w.heap.size) (ok := fun k_ => ((((((True ∧ some k_ ≠ (.slice Ao32 t304.length co32 : Value).ownBlock) ∧ some k_ ≠ (.slice Ao37 t310.length co37 : Value).ownBlock) ∧ some k_ ≠ (.slice Ao50 t320.length co50 : Value).ownBlock) ∧ some k_ ≠ (.slice Ao75 t336.length co75 : Value).ownBlock) ∧ some k_ ≠ (.slice Ao86 t342.length co86 : Value).ownBlock) ∧ some k_ ≠ (.slice Ao97 t348.length co97 : Value).ownBlock)) (n := t330.length) (c := co64) ?_).2.2; exact (rd_ (rf2_ HO332 BK352 (.int .i64 t347) (.slice Ao97 t348.length co97)))); (case side2 => exact (Kd.R_reads' HO332.out).2.1); (case side3 => refine (Kd.R_reads' (e := 3) (base := w.heap.size) (ok := fun k_ => ((((((True ∧ some k_ ≠ (.slice Ao32 t304.length co32 : Value).ownBlock) ∧ some k_ ≠ (.slice Ao37 t310.length co37 : Value).ownBlock) ∧ some k_ ≠ (.slice Ao64 t330.length co64 : Value).ownBlock) ∧ some k_ ≠ (.slice Ao75 t336.length co75 : Value).ownBlock) ∧ some k_ ≠ (.slice Ao86 t342.length co86 : Value).ownBlock) ∧ some k_ ≠ (.slice Ao97 t348.length co97 : Value).ownBlock)) (n := t320.length) (c := co50) ?_).2.2; exact (rd_ (rf2_ HO322 BK352 (.int .i64 t347) (.slice Ao97 t348.length co97)))); (case side4 => exact (Kd.R_reads' HO322.out).2.1); rintro e w101 ⟨rfl, hb⟩; have n_ := a_ (Aside0.mk (Kd.R_below (rd_ (rf2_ HO302 BK352 (.int .i64 t347) (.slice Ao97 t348.length co97))) hb)) (a_ (Aside0.mk (Kd.R_below (rd_ (rf2_ HO306 BK352 (.int .i64 t347) (.slice Ao97 t348.length co97))) hb)) (a_ (Aside0.mk (Kd.R_below (rd_ (rf2_ HO312 BK352 (.int .i64 t347) (.slice Ao97 t348.length co97))) hb)) (a_ (Aside0.mk (Kd.R_below (rd_ (rf2_ HO322 BK352 (.int .i64 t347) (.slice Ao97 t348.length co97))) hb)) (a_ (Aside0.mk (Kd.R_below (rd_ (rf2_ HO332 BK352 (.int .i64 t347) (.slice Ao97 t348.length co97))) hb)) (a_ (Aside0.mk (Kd.R_below (rd_ (rf2_ HO338 BK352 (.int .i64 t347) (.slice Ao97 t348.length co97))) hb)) (a_ (Aside0.mk (Kd.R_below (rd_ (rf2_ HO344 BK352 (.int .i64 t347) (.slice Ao97 t348.length co97))) hb)) (a_ (Aside0.mk (Kd.R_below (rd_ (rf2_ HO350 BK352 (.int .i64 t347) (.slice Ao97 t348.length co97))) hb)) (a_ (bc_ #[.int .i64 t303, .slice Ao32 t304.length co32] 24 BK308 hb) (a_ (bc_ #[.int .i64 t309, .slice Ao37 t310.length co37] 24 BK314 hb) (a_ (bc_ #[.int .i64 t315, .int .i64 t316] 39 BK318 hb) (a_ (bc_ #[.int .i64 t319, .slice Ao50 t320.length co50] 24 BK324 hb) (a_ (bc_ #[.int .i64 t329, .slice Ao64 t330.length co64] 24 BK334 hb) (a_ (bc_ #[.int .i64 t335, .slice Ao75 t336.length co75] 24 BK340 hb) (a_ (bc_ #[.int .i64 t341, .slice Ao86 t342.length co86] 24 BK346 hb) (a_ (bc_ #[.int .i64 t347, .slice Ao97 t348.length co97] 24 BK352 hb) (bs_ HB hb)))))))))))))))); clear HO302 HO306 HO312 HO322 HO332 HO338 HO344 HO350 BK308 BK314 BK318 BK324 BK334 BK340 BK346 BK352 HB; obtain ⟨HO302, HO306, HO312, HO322, HO332, HO338, HO344, HO350, BK308, BK314, BK318, BK324, BK334, BK340, BK346, BK352, HB⟩ := n_; (try clear hb); (try clear hb2); (try clear hk); (try clear hi); obtain ⟨hcz102_0, hcz102_1, hfz102_0, hfz102_1⟩ := cz2_ BK340; obtain ⟨hcz103_0, hcz103_1, hfz103_0, hfz103_1⟩ := cz2_ BK308) | (go_at_call 63; (with_reducible refine (dbm_Same.calls k t335 _ _ t336 t303 _ _ t304 true _ ?side1 ?side2 ?side3 ?side4 A23.out).mono ?_); (case side1 => repeat (first | exact (Kd.R_reads' HO338.out).2.2 | (with_reducible refine Kd.C_alloc ?_ _) | (with_reducible refine Kd.C_drewN ?_ _) | (with_reducible refine Kd.C_drew ?_))); (case side2 => exact (Kd.R_reads' HO338.out).2.1); (case side3 => repeat (first | exact (Kd.R_reads' HO306.out).2.2 | (with_reducible refine Kd.C_alloc ?_ _) | (with_reducible refine Kd.C_drewN ?_ _) | (with_reducible refine Kd.C_drew ?_))); (case side4 => exact (Kd.R_reads' HO306.out).2.1); rintro e w104 ⟨rfl, hb⟩; have n_ := a_ (rb_ HO302 hb) (a_ (rb_ HO306 hb) (a_ (rb_ HO312 hb) (a_ (rb_ HO322 hb) (a_ (rb_ HO332 hb) (a_ (rb_ HO338 hb) (a_ (rb_ HO344 hb) (a_ (rb_ HO350 hb) (a_ (bb_ BK308 hb) (a_ (bb_ BK314 hb) (a_ (bb_ BK318 hb) (a_ (bb_ BK324 hb) (a_ (bb_ BK334 hb) (a_ (bb_ BK340 hb) (a_ (bb_ BK346 hb) (a_ (bb_ BK352 hb) (bs_ HB hb)))))))))))))))); clear HO302 HO306 HO312 HO322 HO332 HO338 HO344 HO350 BK308 BK314 BK318 BK324 BK334 BK340 BK346 BK352 HB; obtain ⟨HO302, HO306, HO312, HO322, HO332, HO338, HO344, HO350, BK308, BK314, BK318, BK324, BK334, BK340, BK346, BK352, HB⟩ := n_; (try clear hb); (try clear hb2); (try clear hk); (try clear hi)))
  go_ret
  exact ⟨by first | rfl | (simp [errW_none, errW_some] <;> rfl) | (simp [*, errW_none, errW_some] <;> rfl), HB_⟩
/-! ### warrantorref08_Vars: function 75 -/
def warrantorref08_Vars.f (a0 : Int) : Option (Bool) := if a0 ≥ 0 then (some (decide (a0 ≤ 8))) else (some false)
set_option maxHeartbeats 8000000 in
set_option maxRecDepth 100000 in
theorem warrantorref08_Vars.calls (a0 : Int) (r : Bool) (w : World) (h : warrantorref08_Vars.f a0 = some r) :
    Calls Try.prog 75 #[.int .i64 a0] w fun e w' => e = .returned (.bool r) ∧ Drawn0 w w' := by
  have H : (if a0 ≥ 0 then (some (decide (a0 ≤ 8))) else (some false)) = some r := h
  clear h
  by_cases c2 : a0 ≥ 0
  · rw [if_pos c2] at H
    have c2b0 : decide (0 ≤ a0) = true := decide_eq_true c2
    clear c2
    obtain rfl := Option.some.inj H
    go_enter Try.func75, Try.ntmps75
    go_wp2
    go_ret
    exact ⟨by first | rfl | (simp; done) | (simp [*]; done), by repeat (first | exact Drawn0.refl _ | apply Drawn0.step)⟩
  rw [if_neg c2] at H
  have c2b0 : decide (0 ≤ a0) = false := decide_eq_false c2
  clear c2
  obtain rfl := Option.some.inj H
  go_enter Try.func75, Try.ntmps75
  go_wp2
  go_ret
  exact ⟨by first | rfl | (simp; done) | (simp [*]; done), by repeat (first | exact Drawn0.refl _ | apply Drawn0.step)⟩

/-! ### warrantorref08_far: function 115 -/
def warrantorref08_far.f (a0 : Int) (a1 : Int) : Option (Int) := if a0 = a1 then (some 0) else (if a0 = 0 then (some 1099511627776) else (if a1 = 0 then (some 1099511627776) else (some 2199023255552)))
set_option maxHeartbeats 8000000 in
set_option maxRecDepth 100000 in
theorem warrantorref08_far.calls (a0 : Int) (a1 : Int) (r : Int) (w : World) (h : warrantorref08_far.f a0 a1 = some r) :
    Calls Try.prog 115 #[.int .i64 a0, .int .i64 a1] w fun e w' => e = .returned (.int .i64 r) ∧ Drawn0 w w' := by
  have H : (if a0 = a1 then (some 0) else (if a0 = 0 then (some 1099511627776) else (if a1 = 0 then (some 1099511627776) else (some 2199023255552)))) = some r := h
  clear h
  by_cases c3 : a0 = a1
  · rw [if_pos c3] at H
    have c3b0 : (a0 == a1) = true := beq_iff_eq.mpr c3
    have c3b1 : (a0 != a1) = false := bne_eq_false_iff_eq.mpr c3
    clear c3
    obtain rfl := Option.some.inj H
    go_enter Try.func115, Try.ntmps115
    go_wp2
    go_ret
    exact ⟨by first | rfl | (simp; done) | (simp [*]; done), by repeat (first | exact Drawn0.refl _ | apply Drawn0.step)⟩
  rw [if_neg c3] at H
  have c3b0 : (a0 == a1) = false := beq_eq_false_iff_ne.mpr c3
  have c3b1 : (a0 != a1) = true := bne_iff_ne.mpr c3
  by_cases c4 : a0 = 0
  · rw [if_pos c4] at H
    have c4b0 : (a0 == 0) = true := beq_iff_eq.mpr c4
    have c4b1 : (a0 != 0) = false := bne_eq_false_iff_eq.mpr c4
    clear c4
    obtain rfl := Option.some.inj H
    go_enter Try.func115, Try.ntmps115
    go_wp2
    go_ret
    exact ⟨by first | rfl | (simp; done) | (simp [*]; done), by repeat (first | exact Drawn0.refl _ | apply Drawn0.step)⟩
  rw [if_neg c4] at H
  have c4b0 : (a0 == 0) = false := beq_eq_false_iff_ne.mpr c4
  have c4b1 : (a0 != 0) = true := bne_iff_ne.mpr c4
  by_cases c5 : a1 = 0
  rotate_left
  · rw [if_neg c5] at H
    have c5b0 : (a1 == 0) = false := beq_eq_false_iff_ne.mpr c5
    have c5b1 : (a1 != 0) = true := bne_iff_ne.mpr c5
    obtain rfl := Option.some.inj H
    go_enter Try.func115, Try.ntmps115
    go_wp2
    go_ret
    exact ⟨by first | rfl | (simp; done) | (simp [*]; done), by repeat (first | exact Drawn0.refl _ | apply Drawn0.step)⟩

  rw [if_pos c5] at H
  have c5b0 : (a1 == 0) = true := beq_iff_eq.mpr c5
  have c5b1 : (a1 != 0) = false := bne_eq_false_iff_eq.mpr c5
  clear c5
  obtain rfl := Option.some.inj H
  go_enter Try.func115, Try.ntmps115
  go_wp2
  go_ret
  exact ⟨by first | rfl | (simp; done) | (simp [*]; done), by repeat (first | exact Drawn0.refl _ | apply Drawn0.step)⟩
/-! ### warrantorref08_clip: function 100 -/
mutual
def warrantorref08_clip.l0 : Nat → Int → List Int → List Int → Int → Option (List Int)
  | 0, _, _, _, _ => none
  | k + 1, x0, x1, x5, x6 => if x6 ≤ x0 then (warrantorref08_clip.l1 k x0 x1 x5 x6 0) else (some x5)
def warrantorref08_clip.l1 : Nat → Int → List Int → List Int → Int → Int → Option (List Int)
  | 0, _, _, _, _, _ => none
  | k + 1, x0, x1, x5, x6, x7 => if x7 ≤ x0 then (if 0 ≤ (wrap64 ((wrap64 (x6 * (wrap64 (x0 + 1)))) + x7)) then (if (wrap64 ((wrap64 (x6 * (wrap64 (x0 + 1)))) + x7)) < (x1.length : Int) then ((warrantorref08_far.f x6 x7).bind fun t356 => (if (rd x1 (wrap64 ((wrap64 (x6 * (wrap64 (x0 + 1)))) + x7))) > t356 then ((warrantorref08_far.f x6 x7).bind fun t357 => (if t357 < (-2199023255553) then (if x5.length < 17592186044416 then (warrantorref08_clip.l1 k x0 x1 (x5 ++ [(-2199023255553)]) x6 (wrap64 (x7 + 1))) else (none)) else (if x5.length < 17592186044416 then (warrantorref08_clip.l1 k x0 x1 (x5 ++ [t357]) x6 (wrap64 (x7 + 1))) else (none)))) else (if (rd x1 (wrap64 ((wrap64 (x6 * (wrap64 (x0 + 1)))) + x7))) < (-2199023255553) then (if x5.length < 17592186044416 then (warrantorref08_clip.l1 k x0 x1 (x5 ++ [(-2199023255553)]) x6 (wrap64 (x7 + 1))) else (none)) else (if x5.length < 17592186044416 then (warrantorref08_clip.l1 k x0 x1 (x5 ++ [rd x1 (wrap64 ((wrap64 (x6 * (wrap64 (x0 + 1)))) + x7))]) x6 (wrap64 (x7 + 1))) else (none))))) else (none)) else (none)) else (warrantorref08_clip.l0 k x0 x1 x5 (wrap64 (x6 + 1)))
end
def warrantorref08_clip.f (k : Nat) (a0 : Int) (l1 : List Int) : Option (List Int) := warrantorref08_clip.l0 k a0 l1 ([] : List Int) 0
theorem warrantorref08_clip.mono_l : ∀ k, (∀ y0 y1 y2 y3, LeO (warrantorref08_clip.l0 k y0 y1 y2 y3) (warrantorref08_clip.l0 (k + 1) y0 y1 y2 y3)) ∧ (∀ y0 y1 y2 y3 y4, LeO (warrantorref08_clip.l1 k y0 y1 y2 y3 y4) (warrantorref08_clip.l1 (k + 1) y0 y1 y2 y3 y4))
  | 0 => ⟨fun _ _ _ _ r h => by simp [warrantorref08_clip.l0] at h, fun _ _ _ _ _ r h => by simp [warrantorref08_clip.l1] at h⟩
  | k + 1 => by
    obtain ⟨ih0, ih1⟩ := warrantorref08_clip.mono_l k
    refine ⟨?_, ?_⟩
    · intro y0 y1 y2 y3
      unfold warrantorref08_clip.l0
      repeat' first
      | (with_reducible exact ih0 _ _ _ _)
      | (with_reducible exact ih1 _ _ _ _ _)
      | (with_reducible exact LeO.refl _)
      | (with_reducible exact LeO.none _)
      | (with_reducible refine LeO.ite ?_ ?_)
      | (with_reducible refine LeO.bind ?_ (fun _ => ?_))
      | exact ih0 _ _ _ _
      | exact ih1 _ _ _ _ _
      | exact LeO.none _
      | refine LeO.ite ?_ ?_
      | refine LeO.bind ?_ (fun _ => ?_)
    · intro y0 y1 y2 y3 y4
      unfold warrantorref08_clip.l1
      repeat' first
      | (with_reducible exact ih0 _ _ _ _)
      | (with_reducible exact ih1 _ _ _ _ _)
      | (with_reducible exact LeO.refl _)
      | (with_reducible exact LeO.none _)
      | (with_reducible refine LeO.ite ?_ ?_)
      | (with_reducible refine LeO.bind ?_ (fun _ => ?_))
      | exact ih0 _ _ _ _
      | exact ih1 _ _ _ _ _
      | exact LeO.none _
      | refine LeO.ite ?_ ?_
      | refine LeO.bind ?_ (fun _ => ?_)
theorem warrantorref08_clip.mono : ∀ a0 a1 k, LeO (warrantorref08_clip.f k a0 a1) (warrantorref08_clip.f (k + 1) a0 a1) := by
  intro a0 a1 k
  obtain ⟨ih0, ih1⟩ := warrantorref08_clip.mono_l k
  unfold warrantorref08_clip.f
  repeat' first
      | (with_reducible exact ih0 _ _ _ _)
      | (with_reducible exact ih1 _ _ _ _ _)
      | (with_reducible exact LeO.refl _)
      | (with_reducible exact LeO.none _)
      | (with_reducible refine LeO.ite ?_ ?_)
      | (with_reducible refine LeO.bind ?_ (fun _ => ?_))
      | exact ih0 _ _ _ _
      | exact ih1 _ _ _ _ _
      | exact LeO.none _
      | refine LeO.ite ?_ ?_
      | refine LeO.bind ?_ (fun _ => ?_)
set_option maxHeartbeats 8000000 in
set_option maxRecDepth 100000 in
theorem warrantorref08_clip.calls (k : Nat) (a0 : Int) (A1 : Option Addr) (c1 : Nat) (l1 : List Int) (r : List Int) (w : World) (hr1 : Kd.C (Kd.int .i64) w A1 l1.length l1) (hc1 : l1.length ≤ c1) (h : warrantorref08_clip.f k a0 l1 = some r) :
    Calls Try.prog 100 #[.int .i64 a0, .slice A1 l1.length c1] w fun e w' => ∃ v0_ : Value, e = .returned (v0_) ∧ Kd.R (Kd.int .i64) 3 w' w.heap.size (fun _ => True) v0_ r ∧ Below w.heap.size w w' := by
  have HR1 := Aside0.mk hr1
  have HC1 := Aside0.mk hc1
  clear hr1 hc1
  have HB := Aside0.mk (Below.refl w.heap.size w)
  have H : (warrantorref08_clip.l0 k a0 l1 ([] : List Int) 0) = some r := h
  clear h
  have H' := Aside0.mk H
  clear H
  go_enter Try.func100, Try.ntmps100
  go_wp2
  go_loopg [5, 6] k (fun kq v5 v6 w' => ∃ (x5_1 : List Int) (x6_1 : Int), v6 = .int .i64 x6_1 ∧ Aside0 (warrantorref08_clip.l0 kq a0 l1 x5_1 x6_1 = some r) ∧ Aside0 (kq ≤ k) ∧ Aside0 (Kd.R (Kd.int .i64) 3 w' w.heap.size (fun _ => True) v5 x5_1) ∧ Aside0 (Below w.heap.size w w'))
  case atStart => exact ⟨(([] : List Int)), (0), (by first | rfl | (simp; done) | (simp [*]; done)), H', ⟨Nat.le_refl _⟩, ⟨by first | exact Kd.R_nil _ _ _ _ _ | exact Kd.N_nil _ _ _ _ _ | exact Kd.V_nil _ _ _ _ _ | exact Kd.Q_nil _ _ _ _ _ | exact Kd.S_nil _ _ _ _ _⟩, ⟨HB_⟩⟩
  case round =>
    clear H'
    try clear c1
    try clear p2
    obtain ⟨x5_1, x6_1, rfl, HA, HK1, HO_5, HB⟩ := hrel
    cases gk with
    | zero => exact absurd HA.out (by simp [warrantorref08_clip.l0])
    | succ k1 =>
      have H := HA.out
      clear HA
      simp only [warrantorref08_clip.l0] at H
      by_cases c3 : x6_1 ≤ a0
      rotate_left
      · rw [if_neg c3] at H
        have c3b0 : decide (x6_1 ≤ a0) = false := decide_eq_false c3
        clear c3
        obtain rfl := Option.some.inj H
        go_wp2
        go_ret
        exact ⟨_, by first | rfl | (simp [errW_none, errW_some] <;> rfl) | (simp [*, errW_none, errW_some] <;> rfl), by (with_reducible repeat (first | apply Kd.R_alloc | apply Kd.R_drewN | apply Kd.R_drew)); exact HO_5.out, HB_⟩

      rw [if_pos c3] at H
      have c3b0 : decide (x6_1 ≤ a0) = true := decide_eq_true c3
      clear c3
      have H' := Aside0.mk H
      clear H
      go_wp2
      go_loopg [5, 7] k1 (fun kq v5 v7 w' => ∃ (x5_2 : List Int) (x7_2 : Int), v7 = .int .i64 x7_2 ∧ Aside0 (warrantorref08_clip.l1 kq a0 l1 x5_2 x6_1 x7_2 = some r) ∧ Aside0 (kq ≤ k1) ∧ Aside0 (Kd.R (Kd.int .i64) 3 w' w.heap.size (fun _ => True) v5 x5_2) ∧ Aside0 (Below w.heap.size w w'))
      case atStart => exact ⟨(x5_1), (0), (by first | rfl | (simp; done) | (simp [*]; done)), H', ⟨Nat.le_refl _⟩, ⟨by (with_reducible repeat (first | apply Kd.R_alloc | apply Kd.R_drewN | apply Kd.R_drew)); exact HO_5.out⟩, ⟨HB_⟩⟩
      case round =>
        clear H'
        try clear c1
        try clear p2
        try clear c3
        try clear c3b0
        try clear p2
        obtain ⟨x5_2, x7_2, rfl, HA, HK2, HO_5, HB⟩ := hrel
        cases gk with
        | zero => exact absurd HA.out (by simp [warrantorref08_clip.l1])
        | succ k2 =>
          have H := HA.out
          clear HA
          simp only [warrantorref08_clip.l1] at H
          by_cases c4 : x7_2 ≤ a0
          rotate_left
          · rw [if_neg c4] at H
            have c4b0 : decide (x7_2 ≤ a0) = false := decide_eq_false c4
            clear c4
            have H' := Aside0.mk H
            clear H
            go_wp2
            go_roundg k2
            case measure => have := HK1.out; have := HK2.out; omega
            case rel => exact ⟨(x5_2), (wrap64 (x6_1 + 1)), (by first | rfl | (simp; done) | (simp [*]; done)), H', ⟨by have := HK1.out; have := HK2.out; omega⟩, ⟨by (with_reducible repeat (first | apply Kd.R_alloc | apply Kd.R_drewN | apply Kd.R_drew)); exact HO_5.out⟩, ⟨HB_⟩⟩
          rw [if_pos c4] at H
          have c4b0 : decide (x7_2 ≤ a0) = true := decide_eq_true c4
          clear c4
          obtain ⟨ji5, hji5⟩ : ∃ j_ : Int, (wrap64 ((wrap64 (x6_1 * (wrap64 (a0 + 1)))) + x7_2)) = j_ := ⟨_, rfl⟩
          replace H : (if 0 ≤ (ji5) then (if (ji5) < (l1.length : Int) then ((warrantorref08_far.f x6_1 x7_2).bind fun t356 => (if (rd l1 (ji5)) > t356 then ((warrantorref08_far.f x6_1 x7_2).bind fun t357 => (if t357 < (-2199023255553) then (if x5_2.length < 17592186044416 then (warrantorref08_clip.l1 k2 a0 l1 (x5_2 ++ [(-2199023255553)]) x6_1 (wrap64 (x7_2 + 1))) else (none)) else (if x5_2.length < 17592186044416 then (warrantorref08_clip.l1 k2 a0 l1 (x5_2 ++ [t357]) x6_1 (wrap64 (x7_2 + 1))) else (none)))) else (if (rd l1 (ji5)) < (-2199023255553) then (if x5_2.length < 17592186044416 then (warrantorref08_clip.l1 k2 a0 l1 (x5_2 ++ [(-2199023255553)]) x6_1 (wrap64 (x7_2 + 1))) else (none)) else (if x5_2.length < 17592186044416 then (warrantorref08_clip.l1 k2 a0 l1 (x5_2 ++ [rd l1 (ji5)]) x6_1 (wrap64 (x7_2 + 1))) else (none))))) else (none)) else (none)) = some r := by first | (rw [hji5] at H; exact H) | (simp only [hji5] at H ⊢; exact H)
          have hji5w : (IntKind.i64.wrap ((wrap64 (x6_1 * (wrap64 (a0 + 1)))) + x7_2)) = ji5 := (i64_w _).trans hji5
          have hji5v : (IntKind.i64.wrap ((IntKind.i64.wrap (x6_1 * (IntKind.i64.wrap (a0 + 1)))) + x7_2)) = ji5 := by (try simp only [i64_w]); first | exact hji5 | exact hji5w
          replace H := yes_ H
          obtain ⟨c6, H⟩ := H
          have c6b0 : decide (0 ≤ (ji5)) = true := decide_eq_true c6
          clear c6
          replace H := yes_ H
          obtain ⟨c7, H⟩ := H
          have c7b0 : decide ((ji5) < (l1.length : Int)) = true := decide_eq_true c7
          clear c7
          replace H := bd_ H
          obtain ⟨t356, A8, H⟩ := H
          (try dsimp only at H)
          by_cases c9 : (rd l1 (ji5)) > t356
          rotate_left
          · rw [if_neg c9] at H
            have c9b0 : decide (t356 < (rd l1 (ji5))) = false := decide_eq_false c9
            clear c9
            by_cases c16 : (rd l1 (ji5)) < (-2199023255553)
            rotate_left
            · rw [if_neg c16] at H
              have c16b0 : decide ((rd l1 (ji5)) < (-2199023255553)) = false := decide_eq_false c16
              clear c16
              replace H := yes_ H
              obtain ⟨c19, H⟩ := H
              have LMc19 := Aside0.mk c19
              clear c19
              obtain ⟨y367, hy367⟩ : ∃ y_ : List Int, y_ = (x5_2 ++ [rd l1 (ji5)]) := ⟨_, rfl⟩
              replace H : (warrantorref08_clip.l1 k2 a0 l1 y367 x6_1 (wrap64 (x7_2 + 1))) = some r := by first | (rw [hy367]; with_reducible exact H) | (have H2_ := (Option.bind_some _ _).symm.trans H; rw [hy367]; with_reducible exact H2_) | (have H2_ := (Option.bind_some _ _).symm.trans H; with_reducible exact H2_) | with_reducible exact H | (rw [hy367]; exact H) | exact H
              have Ny367 := Aside0.mk hy367
              clear hy367
              have H' := Aside0.mk H
              clear H
              have p355 : 0 ≤ ((ji5) : Int) := of_decide_eq_true (by first | (with_reducible assumption) | assumption)
              have q355 : (ji5) < (l1.length : Int) := of_decide_eq_true (by first | (with_reducible assumption) | assumption)
              obtain ⟨ad355, e355, hx355_0⟩ := Kd.at_int HR1.out (ji5) p355 q355
              cases e355
              first | (replace hx355_0 := (HB.out.cell (World.block_lt_of_cell? w _ hx355_0)).trans hx355_0) | skip
              replace p355 := eq_true p355
              replace q355 := eq_true q355
              go_wp2_with (first | ((with_reducible refine gate_callee (f := 115) rfl ?_); refine goesL_ (some 31) rfl rfl Try.func115 (by kernel_rfl) rfl #[.int .i64 x6_1, .int .i64 x7_2] rfl MP_ ?_; (with_reducible refine (warrantorref08_far.calls x6_1 x7_2 t356 _ A8.out).mono ?_); rintro e w' ⟨rfl, ⟨nd, rfl⟩⟩; refine ⟨_, rfl, ?_⟩) | ((with_reducible refine gate_builtin (b := .append) (xs := #[.tmp 38, .tmp 40]) rfl ?_); at_builtin; refine Kd.R_append (Kd.int .i64) (w0 := w) w.heap.size rfl (.tmp 38) (.tmp 40) 22 3 (.int .i64 0) 8 rfl Try.underlying22 info3 rfl (by decide) (by omega) u5 x5_2 (rd l1 (ji5)) [.int .i64 (rd l1 (ji5))] (fun _ => True) (fun _ => False) rfl rfl ?aP (fun _ hk => hk.elim) ?aF ?aO ?aB ?aS ?aL ?_; (case aP => exact rfl); (case aB => exact HB_); (case aF => exact (fun _ _ => trivial)); (case aO => exact (rd_ HO_5.out)); (case aS => exact (below_size HB_)); (case aL => have := LMc19.out; omega); intro v368 w20 ho hb hg hat; rw [← Ny367.out] at ho; have n_ := a_ (Aside0.mk hb) (Aside0.mk ho); clear HB HO_5; obtain ⟨HB, HO369⟩ := n_; clear ho hb hg hat))
              go_roundg k2
              case measure => have := HK1.out; have := HK2.out; omega
              case rel => exact ⟨(y367), (wrap64 (x7_2 + 1)), (by first | rfl | (simp; done) | (simp [*]; done)), H', ⟨by have := HK1.out; have := HK2.out; omega⟩, ⟨by (with_reducible repeat (first | apply Kd.R_alloc | apply Kd.R_drewN | apply Kd.R_drew)); exact HO369.out⟩, ⟨HB_⟩⟩
            rw [if_pos c16] at H
            have c16b0 : decide ((rd l1 (ji5)) < (-2199023255553)) = true := decide_eq_true c16
            clear c16
            replace H := yes_ H
            obtain ⟨c17, H⟩ := H
            have LMc17 := Aside0.mk c17
            clear c17
            obtain ⟨y364, hy364⟩ : ∃ y_ : List Int, y_ = (x5_2 ++ [(-2199023255553)]) := ⟨_, rfl⟩
            replace H : (warrantorref08_clip.l1 k2 a0 l1 y364 x6_1 (wrap64 (x7_2 + 1))) = some r := by first | (rw [hy364]; with_reducible exact H) | (have H2_ := (Option.bind_some _ _).symm.trans H; rw [hy364]; with_reducible exact H2_) | (have H2_ := (Option.bind_some _ _).symm.trans H; with_reducible exact H2_) | with_reducible exact H | (rw [hy364]; exact H) | exact H
            have Ny364 := Aside0.mk hy364
            clear hy364
            have H' := Aside0.mk H
            clear H
            have p355 : 0 ≤ ((ji5) : Int) := of_decide_eq_true (by first | (with_reducible assumption) | assumption)
            have q355 : (ji5) < (l1.length : Int) := of_decide_eq_true (by first | (with_reducible assumption) | assumption)
            obtain ⟨ad355, e355, hx355_0⟩ := Kd.at_int HR1.out (ji5) p355 q355
            cases e355
            first | (replace hx355_0 := (HB.out.cell (World.block_lt_of_cell? w _ hx355_0)).trans hx355_0) | skip
            replace p355 := eq_true p355
            replace q355 := eq_true q355
            go_wp2_with (first | ((with_reducible refine gate_callee (f := 115) rfl ?_); refine goesL_ (some 31) rfl rfl Try.func115 (by kernel_rfl) rfl #[.int .i64 x6_1, .int .i64 x7_2] rfl MP_ ?_; (with_reducible refine (warrantorref08_far.calls x6_1 x7_2 t356 _ A8.out).mono ?_); rintro e w' ⟨rfl, ⟨nd, rfl⟩⟩; refine ⟨_, rfl, ?_⟩) | ((with_reducible refine gate_builtin (b := .append) (xs := #[.tmp 38, .tmp 40]) rfl ?_); at_builtin; refine Kd.R_append (Kd.int .i64) (w0 := w) w.heap.size rfl (.tmp 38) (.tmp 40) 22 3 (.int .i64 0) 8 rfl Try.underlying22 info3 rfl (by decide) (by omega) u5 x5_2 (-2199023255553) [.int .i64 (-2199023255553)] (fun _ => True) (fun _ => False) rfl rfl ?aP (fun _ hk => hk.elim) ?aF ?aO ?aB ?aS ?aL ?_; (case aP => exact rfl); (case aB => exact HB_); (case aF => exact (fun _ _ => trivial)); (case aO => exact (rd_ HO_5.out)); (case aS => exact (below_size HB_)); (case aL => have := LMc17.out; omega); intro v365 w18 ho hb hg hat; rw [← Ny364.out] at ho; have n_ := a_ (Aside0.mk hb) (Aside0.mk ho); clear HB HO_5; obtain ⟨HB, HO366⟩ := n_; clear ho hb hg hat))
            go_roundg k2
            case measure => have := HK1.out; have := HK2.out; omega
            case rel => exact ⟨(y364), (wrap64 (x7_2 + 1)), (by first | rfl | (simp; done) | (simp [*]; done)), H', ⟨by have := HK1.out; have := HK2.out; omega⟩, ⟨by (with_reducible repeat (first | apply Kd.R_alloc | apply Kd.R_drewN | apply Kd.R_drew)); exact HO366.out⟩, ⟨HB_⟩⟩
          rw [if_pos c9] at H
          have c9b0 : decide (t356 < (rd l1 (ji5))) = true := decide_eq_true c9
          clear c9
          replace H := bd_ H
          obtain ⟨t357, A10, H⟩ := H
          (try dsimp only at H)
          by_cases c11 : t357 < (-2199023255553)
          rotate_left
          · rw [if_neg c11] at H
            have c11b0 : decide (t357 < (-2199023255553)) = false := decide_eq_false c11
            clear c11
            replace H := yes_ H
            obtain ⟨c14, H⟩ := H
            have LMc14 := Aside0.mk c14
            clear c14
            obtain ⟨y361, hy361⟩ : ∃ y_ : List Int, y_ = (x5_2 ++ [t357]) := ⟨_, rfl⟩
            replace H : (warrantorref08_clip.l1 k2 a0 l1 y361 x6_1 (wrap64 (x7_2 + 1))) = some r := by first | (rw [hy361]; with_reducible exact H) | (have H2_ := (Option.bind_some _ _).symm.trans H; rw [hy361]; with_reducible exact H2_) | (have H2_ := (Option.bind_some _ _).symm.trans H; with_reducible exact H2_) | with_reducible exact H | (rw [hy361]; exact H) | exact H
            have Ny361 := Aside0.mk hy361
            clear hy361
            have H' := Aside0.mk H
            clear H
            have p355 : 0 ≤ ((ji5) : Int) := of_decide_eq_true (by first | (with_reducible assumption) | assumption)
            have q355 : (ji5) < (l1.length : Int) := of_decide_eq_true (by first | (with_reducible assumption) | assumption)
            obtain ⟨ad355, e355, hx355_0⟩ := Kd.at_int HR1.out (ji5) p355 q355
            cases e355
            first | (replace hx355_0 := (HB.out.cell (World.block_lt_of_cell? w _ hx355_0)).trans hx355_0) | skip
            replace p355 := eq_true p355
            replace q355 := eq_true q355
            go_wp2_with (first | ((with_reducible refine gate_callee (f := 115) rfl ?_); refine goesL_ (some 31) rfl rfl Try.func115 (by kernel_rfl) rfl #[.int .i64 x6_1, .int .i64 x7_2] rfl MP_ ?_; (with_reducible refine (warrantorref08_far.calls x6_1 x7_2 t356 _ A8.out).mono ?_); rintro e w' ⟨rfl, ⟨nd, rfl⟩⟩; refine ⟨_, rfl, ?_⟩; (try clear A8)) | ((with_reducible refine gate_callee (f := 115) rfl ?_); refine goesL_ (some 35) rfl rfl Try.func115 (by kernel_rfl) rfl #[.int .i64 x6_1, .int .i64 x7_2] rfl MP_ ?_; (with_reducible refine (warrantorref08_far.calls x6_1 x7_2 t357 _ A10.out).mono ?_); rintro e w' ⟨rfl, ⟨nd, rfl⟩⟩; refine ⟨_, rfl, ?_⟩) | ((with_reducible refine gate_builtin (b := .append) (xs := #[.tmp 38, .tmp 40]) rfl ?_); at_builtin; refine Kd.R_append (Kd.int .i64) (w0 := w) w.heap.size rfl (.tmp 38) (.tmp 40) 22 3 (.int .i64 0) 8 rfl Try.underlying22 info3 rfl (by decide) (by omega) u5 x5_2 t357 [.int .i64 t357] (fun _ => True) (fun _ => False) rfl rfl ?aP (fun _ hk => hk.elim) ?aF ?aO ?aB ?aS ?aL ?_; (case aP => exact rfl); (case aB => exact HB_); (case aF => exact (fun _ _ => trivial)); (case aO => exact (rd_ HO_5.out)); (case aS => exact (below_size HB_)); (case aL => have := LMc14.out; omega); intro v362 w15 ho hb hg hat; rw [← Ny361.out] at ho; have n_ := a_ (Aside0.mk hb) (Aside0.mk ho); clear HB HO_5; obtain ⟨HB, HO363⟩ := n_; clear ho hb hg hat))
            go_roundg k2
            case measure => have := HK1.out; have := HK2.out; omega
            case rel => exact ⟨(y361), (wrap64 (x7_2 + 1)), (by first | rfl | (simp; done) | (simp [*]; done)), H', ⟨by have := HK1.out; have := HK2.out; omega⟩, ⟨by (with_reducible repeat (first | apply Kd.R_alloc | apply Kd.R_drewN | apply Kd.R_drew)); exact HO363.out⟩, ⟨HB_⟩⟩
          rw [if_pos c11] at H
          have c11b0 : decide (t357 < (-2199023255553)) = true := decide_eq_true c11
          clear c11
          replace H := yes_ H
          obtain ⟨c12, H⟩ := H
          have LMc12 := Aside0.mk c12
          clear c12
          obtain ⟨y358, hy358⟩ : ∃ y_ : List Int, y_ = (x5_2 ++ [(-2199023255553)]) := ⟨_, rfl⟩
          replace H : (warrantorref08_clip.l1 k2 a0 l1 y358 x6_1 (wrap64 (x7_2 + 1))) = some r := by first | (rw [hy358]; with_reducible exact H) | (have H2_ := (Option.bind_some _ _).symm.trans H; rw [hy358]; with_reducible exact H2_) | (have H2_ := (Option.bind_some _ _).symm.trans H; with_reducible exact H2_) | with_reducible exact H | (rw [hy358]; exact H) | exact H
          have Ny358 := Aside0.mk hy358
          clear hy358
          have H' := Aside0.mk H
          clear H
          have p355 : 0 ≤ ((ji5) : Int) := of_decide_eq_true (by first | (with_reducible assumption) | assumption)
          have q355 : (ji5) < (l1.length : Int) := of_decide_eq_true (by first | (with_reducible assumption) | assumption)
          obtain ⟨ad355, e355, hx355_0⟩ := Kd.at_int HR1.out (ji5) p355 q355
          cases e355
          first | (replace hx355_0 := (HB.out.cell (World.block_lt_of_cell? w _ hx355_0)).trans hx355_0) | skip
          replace p355 := eq_true p355
          replace q355 := eq_true q355
          go_wp2_with (first | ((with_reducible refine gate_callee (f := 115) rfl ?_); refine goesL_ (some 31) rfl rfl Try.func115 (by kernel_rfl) rfl #[.int .i64 x6_1, .int .i64 x7_2] rfl MP_ ?_; (with_reducible refine (warrantorref08_far.calls x6_1 x7_2 t356 _ A8.out).mono ?_); rintro e w' ⟨rfl, ⟨nd, rfl⟩⟩; refine ⟨_, rfl, ?_⟩; (try clear A8)) | ((with_reducible refine gate_callee (f := 115) rfl ?_); refine goesL_ (some 35) rfl rfl Try.func115 (by kernel_rfl) rfl #[.int .i64 x6_1, .int .i64 x7_2] rfl MP_ ?_; (with_reducible refine (warrantorref08_far.calls x6_1 x7_2 t357 _ A10.out).mono ?_); rintro e w' ⟨rfl, ⟨nd, rfl⟩⟩; refine ⟨_, rfl, ?_⟩) | ((with_reducible refine gate_builtin (b := .append) (xs := #[.tmp 38, .tmp 40]) rfl ?_); at_builtin; refine Kd.R_append (Kd.int .i64) (w0 := w) w.heap.size rfl (.tmp 38) (.tmp 40) 22 3 (.int .i64 0) 8 rfl Try.underlying22 info3 rfl (by decide) (by omega) u5 x5_2 (-2199023255553) [.int .i64 (-2199023255553)] (fun _ => True) (fun _ => False) rfl rfl ?aP (fun _ hk => hk.elim) ?aF ?aO ?aB ?aS ?aL ?_; (case aP => exact rfl); (case aB => exact HB_); (case aF => exact (fun _ _ => trivial)); (case aO => exact (rd_ HO_5.out)); (case aS => exact (below_size HB_)); (case aL => have := LMc12.out; omega); intro v359 w13 ho hb hg hat; rw [← Ny358.out] at ho; have n_ := a_ (Aside0.mk hb) (Aside0.mk ho); clear HB HO_5; obtain ⟨HB, HO360⟩ := n_; clear ho hb hg hat))
          go_roundg k2
          case measure => have := HK1.out; have := HK2.out; omega
          case rel => exact ⟨(y358), (wrap64 (x7_2 + 1)), (by first | rfl | (simp; done) | (simp [*]; done)), H', ⟨by have := HK1.out; have := HK2.out; omega⟩, ⟨by (with_reducible repeat (first | apply Kd.R_alloc | apply Kd.R_drewN | apply Kd.R_drew)); exact HO360.out⟩, ⟨HB_⟩⟩
end Go.Proofs.Ytgeemdpflcefkaa.Z

-- WRITTEN BY this session's program wip/ext.py, in print.py's manner
import Derived.Test.YtkailfmehmgolaaDoorRx0
import Derived.Test.YtkailfmehmgolaaDoorRx1
import Derived.Test.YtkailfmehmgolaaDoorRx3
import Derived.Test.YtkailfmehmgolaaDoorRx6
import Derived.Test.YtkailfmehmgolaaDoorRx7
namespace Go.Proofs.YtkailfmehmgolaaDoor.R
open Go.RowKit Go.Proofs.YtkailfmehmgolaaDoorW.PrintWords Go.Proofs.YtkailfmehmgolaaDoorW.PrintLast Go.Proofs.YtkailfmehmgolaaDoorW.PrintMore
attribute [local go_sem] max2_int min2_int max_two min_two max_three min_three max_four min_four   -- for this text's walks alone
set_option linter.unusedVariables false
set_option linter.unusedSimpArgs false

attribute [local go_sem high] eqA23
/-! ### val_Show: function 43 -/
def val_Show.f (a0 : Int) : Option (ByteArray) := (val_Clip.f a0).bind fun t202 => (if t202 = 1099511627776 then (some (⟨#[105, 110, 102]⟩ : ByteArray)) else (if t202 = (-1099511627776) then (some (⟨#[45, 105, 110, 102]⟩ : ByteArray)) else ((strconv_Itoa_52.f t202).bind fun t203 => (some t203))))
set_option maxHeartbeats 8000000 in
set_option maxRecDepth 100000 in
theorem val_Show.calls (a0 : Int) (r : ByteArray) (w : World) (htab : TB w) (h : val_Show.f a0 = some r) :
    Calls Tryd.prog 43 #[.int .i64 a0] w fun e w' => e = .returned (.string r) ∧ Below w.heap.size w w' := by
  have HTB := Aside0.mk htab
  clear htab
  have HB := Aside0.mk (Below.refl w.heap.size w)
  have H : ((val_Clip.f a0).bind fun t202 => (if t202 = 1099511627776 then (some (⟨#[105, 110, 102]⟩ : ByteArray)) else (if t202 = (-1099511627776) then (some (⟨#[45, 105, 110, 102]⟩ : ByteArray)) else ((strconv_Itoa_52.f t202).bind fun t203 => (some t203))))) = some r := h
  clear h
  replace H := Option.bind_eq_some_iff.mp H
  obtain ⟨t202, A20, H⟩ := H
  replace H : (if t202 = 1099511627776 then (some (⟨#[105, 110, 102]⟩ : ByteArray)) else (if t202 = (-1099511627776) then (some (⟨#[45, 105, 110, 102]⟩ : ByteArray)) else ((strconv_Itoa_52.f t202).bind fun t203 => (some t203)))) = some r := H
  have A2 := Aside0.mk A20
  clear A20
  by_cases c3 : t202 = 1099511627776
  · rw [if_pos c3] at H
    have c3b0 : (t202 == 1099511627776) = true := beq_iff_eq.mpr c3
    have c3b1 : (t202 != 1099511627776) = false := bne_eq_false_iff_eq.mpr c3
    clear c3
    obtain rfl := Option.some.inj H
    go_enter Tryd.func43, Tryd.ntmps43
    go_wp2_with (first | ((with_reducible refine gate_callee (f := 51) rfl ?_); refine goesL_ (some 4) rfl rfl Tryd.func51 (by kernel_rfl) rfl #[.int .i64 a0] rfl MP_ ?_; (with_reducible refine (val_Clip.calls a0 t202 _ A2.out).mono ?_); rintro e w4 ⟨rfl, hb⟩; refine ⟨_, rfl, ?_⟩; have n0_ := Aside0.mk (below_step HB_ hb); clear HB; have HB := n0_; clear n0_; (try clear hb); (try clear hb2); (try clear hk); (try clear hi)))
    go_ret
    exact ⟨by first | rfl | (simp [errW_none, errW_some] <;> rfl) | (simp [*, errW_none, errW_some] <;> rfl), by repeat (first | (with_reducible first | exact HB.out | apply below_alloc | apply pw_below_drewN | apply below_drew1) | exact HB.out)⟩
  · rw [if_neg c3] at H
    have c3b0 : (t202 == 1099511627776) = false := beq_eq_false_iff_ne.mpr c3
    have c3b1 : (t202 != 1099511627776) = true := bne_iff_ne.mpr c3
    by_cases c5 : t202 = (-1099511627776)
    · rw [if_pos c5] at H
      have c5b0 : (t202 == (-1099511627776)) = true := beq_iff_eq.mpr c5
      have c5b1 : (t202 != (-1099511627776)) = false := bne_eq_false_iff_eq.mpr c5
      clear c5
      obtain rfl := Option.some.inj H
      go_enter Tryd.func43, Tryd.ntmps43
      go_wp2_with (first | ((with_reducible refine gate_callee (f := 51) rfl ?_); refine goesL_ (some 4) rfl rfl Tryd.func51 (by kernel_rfl) rfl #[.int .i64 a0] rfl MP_ ?_; (with_reducible refine (val_Clip.calls a0 t202 _ A2.out).mono ?_); rintro e w6 ⟨rfl, hb⟩; refine ⟨_, rfl, ?_⟩; have n0_ := Aside0.mk (below_step HB_ hb); clear HB; have HB := n0_; clear n0_; (try clear hb); (try clear hb2); (try clear hk); (try clear hi)))
      go_ret
      exact ⟨by first | rfl | (simp [errW_none, errW_some] <;> rfl) | (simp [*, errW_none, errW_some] <;> rfl), by repeat (first | (with_reducible first | exact HB.out | apply below_alloc | apply pw_below_drewN | apply below_drew1) | exact HB.out)⟩
    · rw [if_neg c5] at H
      have c5b0 : (t202 == (-1099511627776)) = false := beq_eq_false_iff_ne.mpr c5
      have c5b1 : (t202 != (-1099511627776)) = true := bne_iff_ne.mpr c5
      replace H := Option.bind_eq_some_iff.mp H
      obtain ⟨t203, A70, H⟩ := H
      replace H : (some t203) = some r := H
      have A7 := Aside0.mk A70
      clear A70
      obtain rfl := Option.some.inj H
      go_enter Tryd.func43, Tryd.ntmps43
      go_wp2_with (first | ((with_reducible refine gate_callee (f := 51) rfl ?_); refine goesL_ (some 4) rfl rfl Tryd.func51 (by kernel_rfl) rfl #[.int .i64 a0] rfl MP_ ?_; (with_reducible refine (val_Clip.calls a0 t202 _ A2.out).mono ?_); rintro e w8 ⟨rfl, hb⟩; refine ⟨_, rfl, ?_⟩; have n0_ := Aside0.mk (below_step HB_ hb); clear HB; have HB := n0_; clear n0_; (try clear hb); (try clear hb2); (try clear hk); (try clear hi)) | ((with_reducible refine gate_callee (f := 52) rfl ?_); refine goesL_ (some 11) rfl rfl Tryd.func52 (by kernel_rfl) rfl #[.int .i64 t202] rfl MP_ ?_; (with_reducible refine (strconv_Itoa_52.calls t202 t203 _ (tb_below HTB.out HB_) A7.out).mono ?_); rintro e w9 ⟨rfl, hb⟩; refine ⟨_, rfl, ?_⟩; have n0_ := Aside0.mk (below_step HB_ hb); clear HB; have HB := n0_; clear n0_; (try clear hb); (try clear hb2); (try clear hk); (try clear hi)))
      go_ret
      exact ⟨by first | rfl | (simp [errW_none, errW_some] <;> rfl) | (simp [*, errW_none, errW_some] <;> rfl), by repeat (first | (with_reducible first | exact HB.out | apply below_alloc | apply pw_below_drewN | apply below_drew1) | exact HB.out)⟩

/-! ### itv_Show: function 34 -/
def itv_Show.f (a0_0 : Int) (a0_1 : Int) : Option (ByteArray) := (itv_plain.f a0_0 a0_1).bind fun bt205 => ((itv_None.f).bind fun bt207 => (if (bt205.1 == bt207.1 && (bt205.2 == bt207.2)) = true then (some (⟨#[110, 111, 110, 101]⟩ : ByteArray)) else ((val_Show.f bt205.1).bind fun t209 => (if 1 + t209.size ≤ 9223372036854775807 then (if ((⟨#[91]⟩ : ByteArray) ++ t209).size + 2 ≤ 9223372036854775807 then ((val_Show.f bt205.2).bind fun t210 => (if (((⟨#[91]⟩ : ByteArray) ++ t209) ++ (⟨#[44, 32]⟩ : ByteArray)).size + t210.size ≤ 9223372036854775807 then (if ((((⟨#[91]⟩ : ByteArray) ++ t209) ++ (⟨#[44, 32]⟩ : ByteArray)) ++ t210).size + 1 ≤ 9223372036854775807 then (some (((((⟨#[91]⟩ : ByteArray) ++ t209) ++ (⟨#[44, 32]⟩ : ByteArray)) ++ t210) ++ (⟨#[93]⟩ : ByteArray))) else (none)) else (none))) else (none)) else (none)))))
def itv_Show.T4 : Bool × List (List Nat × List Nat) := (true, [([], []), ([0], [0]), ([1], [1]), ([2], [2]), ([3], [3]), ([], []), ([5], [5]), ([6, 2], [6]), ([4, 7], [4, 7]), ([8], [8]), ([9, 7, 0, 1, 2, 3, 4, 5, 6, 7, 8, 9], [9])])
def itv_Show.B4 : List Nat := [0, 1, 3, 7, 15, 0, 32, 103, 255, 511, 1023]
theorem itv_Show.tab4 : rtab .any (opsOf Tryd.f34 4) = itv_Show.T4 := by kernel_rfl
theorem itv_Show.bits4 : waitsOk itv_Show.T4.2 itv_Show.B4 = true := by kernel_rfl
set_option maxHeartbeats 8000000 in
set_option maxRecDepth 100000 in
theorem itv_Show.calls (a0_0 : Int) (a0_1 : Int) (r : ByteArray) (w : World) (htab : TB w) (h : itv_Show.f a0_0 a0_1 = some r) :
    Calls Tryd.prog 34 #[.agg #[.int .i64 a0_0, .int .i64 a0_1]] w fun e w' => e = .returned (.string r) ∧ Below w.heap.size w w' := by
  have HTB := Aside0.mk htab
  clear htab
  have hu23 := Tryd.underlying23
  have HB := Aside0.mk (Below.refl w.heap.size w)
  have H : ((itv_plain.f a0_0 a0_1).bind fun bt205 => ((itv_None.f).bind fun bt207 => (if (bt205.1 == bt207.1 && (bt205.2 == bt207.2)) = true then (some (⟨#[110, 111, 110, 101]⟩ : ByteArray)) else ((val_Show.f bt205.1).bind fun t209 => (if 1 + t209.size ≤ 9223372036854775807 then (if ((⟨#[91]⟩ : ByteArray) ++ t209).size + 2 ≤ 9223372036854775807 then ((val_Show.f bt205.2).bind fun t210 => (if (((⟨#[91]⟩ : ByteArray) ++ t209) ++ (⟨#[44, 32]⟩ : ByteArray)).size + t210.size ≤ 9223372036854775807 then (if ((((⟨#[91]⟩ : ByteArray) ++ t209) ++ (⟨#[44, 32]⟩ : ByteArray)) ++ t210).size + 1 ≤ 9223372036854775807 then (some (((((⟨#[91]⟩ : ByteArray) ++ t209) ++ (⟨#[44, 32]⟩ : ByteArray)) ++ t210) ++ (⟨#[93]⟩ : ByteArray))) else (none)) else (none))) else (none)) else (none)))))) = some r := h
  clear h
  replace H := Option.bind_eq_some_iff.mp H
  obtain ⟨⟨t205, t206⟩, A20, H⟩ := H
  replace H : ((itv_None.f).bind fun bt207 => (if (t205 == bt207.1 && (t206 == bt207.2)) = true then (some (⟨#[110, 111, 110, 101]⟩ : ByteArray)) else ((val_Show.f t205).bind fun t209 => (if 1 + t209.size ≤ 9223372036854775807 then (if ((⟨#[91]⟩ : ByteArray) ++ t209).size + 2 ≤ 9223372036854775807 then ((val_Show.f t206).bind fun t210 => (if (((⟨#[91]⟩ : ByteArray) ++ t209) ++ (⟨#[44, 32]⟩ : ByteArray)).size + t210.size ≤ 9223372036854775807 then (if ((((⟨#[91]⟩ : ByteArray) ++ t209) ++ (⟨#[44, 32]⟩ : ByteArray)) ++ t210).size + 1 ≤ 9223372036854775807 then (some (((((⟨#[91]⟩ : ByteArray) ++ t209) ++ (⟨#[44, 32]⟩ : ByteArray)) ++ t210) ++ (⟨#[93]⟩ : ByteArray))) else (none)) else (none))) else (none)) else (none))))) = some r := H
  have A2 := Aside0.mk A20
  clear A20
  replace H := Option.bind_eq_some_iff.mp H
  obtain ⟨⟨t207, t208⟩, A30, H⟩ := H
  replace H : (if (t205 == t207 && (t206 == t208)) = true then (some (⟨#[110, 111, 110, 101]⟩ : ByteArray)) else ((val_Show.f t205).bind fun t209 => (if 1 + t209.size ≤ 9223372036854775807 then (if ((⟨#[91]⟩ : ByteArray) ++ t209).size + 2 ≤ 9223372036854775807 then ((val_Show.f t206).bind fun t210 => (if (((⟨#[91]⟩ : ByteArray) ++ t209) ++ (⟨#[44, 32]⟩ : ByteArray)).size + t210.size ≤ 9223372036854775807 then (if ((((⟨#[91]⟩ : ByteArray) ++ t209) ++ (⟨#[44, 32]⟩ : ByteArray)) ++ t210).size + 1 ≤ 9223372036854775807 then (some (((((⟨#[91]⟩ : ByteArray) ++ t209) ++ (⟨#[44, 32]⟩ : ByteArray)) ++ t210) ++ (⟨#[93]⟩ : ByteArray))) else (none)) else (none))) else (none)) else (none)))) = some r := H
  have A3 := Aside0.mk A30
  clear A30
  by_cases c4 : (t205 == t207 && (t206 == t208)) = true
  · rw [if_pos c4] at H
    have c4b0 : (t205 == t207 && (t206 == t208)) = true := c4
    (try (have c4b1 : decide (t205 = t207 && (t206 == t208)) = true := by simpa using c4))
    (try (have c4b2 : (t205 == t207 && (t206 == t208)) = true := by simpa using c4))
    clear c4
    obtain rfl := Option.some.inj H
    go_enter Tryd.func34, Tryd.ntmps34
    try go_wp2_with (first | ((with_reducible refine gate_dst (N := 1) rfl ?_); refine box_event ?hg (N := 1) ?hd (cs := #[.int .i64 a0_0, .int .i64 a0_1]) (t := 23) ?hr ?_; (case hd => rfl); (case hg => rfl); (case hr => first | (go_simp; done) | (go_simp; rfl)); intro gb204 hg w5 hbox hb; have n0_ := Aside0.mk (below_step HB_ hb); have n1_ := Aside0.mk (hbox); have n2_ := Aside0.mk ((by rw [hg]; exact (below_size HB_) : w.heap.size ≤ gb204)); have n3_ := Aside0.mk ((by rw [hg]; exact (below_size HB_) : w.heap.size ≤ gb204)); clear HB; have HB := n0_; have BK204 := n1_; have GW204 := n2_; have GE204 := n3_; clear n0_ n1_ n2_ n3_; clear hb hbox hg; have hcz6_0 : w5.cell? ⟨gb204, 0, none⟩ = some (.int .i64 a0_0) := (blk_cell BK204.out 0).trans rfl; have hcz6_1 : w5.cell? ⟨gb204, 1, none⟩ = some (.int .i64 a0_1) := (blk_cell BK204.out 1).trans rfl; have hfz6_0 := blk_frozen BK204.out 0; have hfz6_1 := blk_frozen BK204.out 1) | ((with_reducible refine gate_callee (f := 39) rfl ?_); refine goesL_ (some 4) rfl rfl Tryd.func39 (by kernel_rfl) rfl #[.agg #[.int .i64 a0_0, .int .i64 a0_1]] rfl MP_ ?_; (with_reducible refine (itv_plain.calls a0_0 a0_1 t205 t206 _ A2.out).mono ?_); rintro e w7 ⟨rfl, hb⟩; refine ⟨_, rfl, ?_⟩; have n0_ := Aside0.mk (blk_below (g := gb204) (o := .cells #[.int .i64 a0_0, .int .i64 a0_1] 23 (0, 0)) (bk_ BK204.out) hb); have n1_ := Aside0.mk (below_step HB_ hb); clear BK204; clear HB; have BK204 := n0_; have HB := n1_; clear n0_ n1_; (try clear hb); (try clear hb2); (try clear hk); (try clear hi); have hcz8_0 : w7.cell? ⟨gb204, 0, none⟩ = some (.int .i64 a0_0) := (blk_cell BK204.out 0).trans rfl; have hcz8_1 : w7.cell? ⟨gb204, 1, none⟩ = some (.int .i64 a0_1) := (blk_cell BK204.out 1).trans rfl; have hfz8_0 := blk_frozen BK204.out 0; have hfz8_1 := blk_frozen BK204.out 1))
    have n0_ : Aside0 (((w7.setCell ⟨gb204, 0, none⟩ (.int .i64 t205)).setCell ⟨gb204, 1, none⟩ (.int .i64 t206)).heap[gb204]? = some (.cells #[.int .i64 t205, .int .i64 t206] 23 (0, 0))) := ⟨by (with_reducible repeat (first | refine blk_drewN ?_ _ | refine blk_drew ?_ | refine blk_alloc ?_ _)); refine blk_put (cs := #[.int .i64 t205, .int .i64 a0_1]) ?_ 1 _ rfl; (with_reducible repeat (first | refine blk_drewN ?_ _ | refine blk_drew ?_ | refine blk_alloc ?_ _)); refine blk_put (cs := #[.int .i64 a0_0, .int .i64 a0_1]) ?_ 0 _ rfl; (with_reducible repeat (first | refine blk_drewN ?_ _ | refine blk_drew ?_ | refine blk_alloc ?_ _)); exact BK204.out⟩
    have n1_ : Aside0 (Below w.heap.size w ((w7.setCell ⟨gb204, 0, none⟩ (.int .i64 t205)).setCell ⟨gb204, 1, none⟩ (.int .i64 t206))) := ⟨by repeat (first | (with_reducible first | exact HB.out | apply below_alloc | apply pw_below_drewN | apply below_drew1 | refine below_set ?_ GE204.out) | exact HB.out)⟩
    (try clear BK204)
    (try clear HB)
    generalize ((w7.setCell ⟨gb204, 0, none⟩ (.int .i64 t205)).setCell ⟨gb204, 1, none⟩ (.int .i64 t206)) = w9 at n0_ n1_ ⊢
    have BK204 := n0_
    have HB := n1_
    clear n0_ n1_
    first | (obtain ⟨w9, hq_⟩ : ∃ x, x = w9.drewN nd := ⟨_, rfl⟩; rw [← hq_]; have q0_ := Aside0.mk (blk_drewN BK204.out nd); rw [← hq_] at q0_; have q1_ := Aside0.mk (pw_below_drewN HB.out nd); rw [← hq_] at q1_; clear BK204; clear HB; have BK204 := q0_; have HB := q1_; clear hq_ q0_ q1_) | skip
    have n0_ := Aside0.mk (blk_drew BK204.out)
    have n1_ := Aside0.mk (below_drew1 HB.out)
    clear BK204
    clear HB
    have BK204 := n0_
    have HB := n1_
    clear n0_ n1_
    refine start_ (n := 3) (S := fun w' => w'.cell? ⟨gb204, 0, none⟩ = some (.int .i64 t205) ∧ w'.cell? ⟨gb204, 1, none⟩ = some (.int .i64 t206)) (ds := []) #[false, false, false] (by kernel_rfl) rfl rfl ⟨(blk_cell BK204.out 0).trans rfl, (blk_cell BK204.out 1).trans rfl⟩ (fun hHeld => ?_)
    generalize w9.drew = w10 at BK204 HB hHeld ⊢
    refine take_ (i := 0) (N := some 5) (v := ?_) (a' := ?_) #[true, false, false] rfl rfl (by kernel_rfl) (fun _ _ _ h => h) (Or.inl ⟨by rfl, ?_⟩) hHeld ?_ ?_
    rotate_left
    · rintro w' ⟨s0, s1⟩
      go_simp
      with_reducible rfl
    rotate_left
    · exact AP_
    refine one_ (i := 1) (N := some 6) #[true, true, false] rfl rfl (by kernel_rfl) (by decide) (fun K hK => ?_)
    refine goes_ Tryd.func33 (by kernel_rfl) rfl #[] (by rfl) rfl rfl MP_ ?_
    with_reducible refine (itv_None.calls  t207 t208 _ A3.out).mono ?_
    rintro e w11 ⟨rfl, hb⟩
    refine ⟨_, rfl, ?_⟩
    have n0_ := Aside0.mk (blk_below (g := gb204) (o := .cells #[.int .i64 t205, .int .i64 t206] 23 (0, 0)) (bk_ BK204.out) hb)
    have n1_ := Aside0.mk (below_step HB_ hb)
    clear BK204
    clear HB
    have BK204 := n0_
    have HB := n1_
    clear n0_ n1_
    (try clear hb)
    (try clear hb2)
    (try clear hk)
    (try clear hi)
    refine hK.out _ _ ⟨(blk_cell BK204.out 0).trans rfl, (blk_cell BK204.out 1).trans rfl⟩ (fun hHeld => ?_)
    clear hK K
    refine norm_ (a' := ?_) ?_ ?_
    rotate_left
    · show Act.put _ (some 6) _ = _
      simp only [Act.put, List.setIfInBounds_toArray, List.set_cons_zero, List.set_cons_succ, i64_w, i32_w]
      rfl
    refine pure_ (i := 2) (N := some 7) (v := ?_) (a' := ?_) #[true, true, true] rfl rfl (by kernel_rfl) (fun _ _ _ h => h) (Or.inl ⟨by rfl, ?_⟩) ?_ ?_
    rotate_left
    · intro w'
      go_simp
      with_reducible rfl
    rotate_left
    · exact AP_
    refine done_ (by kernel_rfl) ?_
    try go_wp2
    go_ret
    exact ⟨by first | rfl | (simp [errW_none, errW_some] <;> rfl) | (simp [*, errW_none, errW_some] <;> rfl), by repeat (first | (with_reducible first | exact HB.out | apply below_alloc | apply pw_below_drewN | apply below_drew1 | refine below_set ?_ GE204.out) | exact HB.out)⟩
  · rw [if_neg c4] at H
    have c4b0 : (t205 == t207 && (t206 == t208)) = false := by simpa using c4
    (try (have c4b1 : decide (t205 = t207 && (t206 == t208)) = false := by simpa using c4))
    (try (have c4b2 : (t205 == t207 && (t206 == t208)) = false := by simpa using c4))
    (try (have c4b3 : ¬ (t205 = t207 && (t206 == t208)) := by simpa using c4))
    clear c4
    replace H := Option.bind_eq_some_iff.mp H
    obtain ⟨t209, A120, H⟩ := H
    replace H : (if 1 + t209.size ≤ 9223372036854775807 then (if ((⟨#[91]⟩ : ByteArray) ++ t209).size + 2 ≤ 9223372036854775807 then ((val_Show.f t206).bind fun t210 => (if (((⟨#[91]⟩ : ByteArray) ++ t209) ++ (⟨#[44, 32]⟩ : ByteArray)).size + t210.size ≤ 9223372036854775807 then (if ((((⟨#[91]⟩ : ByteArray) ++ t209) ++ (⟨#[44, 32]⟩ : ByteArray)) ++ t210).size + 1 ≤ 9223372036854775807 then (some (((((⟨#[91]⟩ : ByteArray) ++ t209) ++ (⟨#[44, 32]⟩ : ByteArray)) ++ t210) ++ (⟨#[93]⟩ : ByteArray))) else (none)) else (none))) else (none)) else (none)) = some r := H
    have A12 := Aside0.mk A120
    clear A120
    by_cases c13 : 1 + t209.size ≤ 9223372036854775807
    · rw [if_pos c13] at H
      have c13b0 := eq_true c13
      have c13b1 : decide (1 + t209.size ≤ 9223372036854775807) = true := decide_eq_true c13
      try have c13b2 : (9223372036854775807 < 1 + t209.size) = False := eq_false (Nat.not_lt.2 c13)
      by_cases c14 : ((⟨#[91]⟩ : ByteArray) ++ t209).size + 2 ≤ 9223372036854775807
      · rw [if_pos c14] at H
        have c14b0 := eq_true c14
        have c14b1 : decide (((⟨#[91]⟩ : ByteArray) ++ t209).size + 2 ≤ 9223372036854775807) = true := decide_eq_true c14
        try have c14b2 : (9223372036854775807 < ((⟨#[91]⟩ : ByteArray) ++ t209).size + 2) = False := eq_false (Nat.not_lt.2 c14)
        try (have c14b3 := c14b2; simp only [ByteArray.size_append, show (⟨#[91]⟩ : ByteArray).size = 1 from rfl] at c14b3)
        replace H := Option.bind_eq_some_iff.mp H
        obtain ⟨t210, A150, H⟩ := H
        replace H : (if (((⟨#[91]⟩ : ByteArray) ++ t209) ++ (⟨#[44, 32]⟩ : ByteArray)).size + t210.size ≤ 9223372036854775807 then (if ((((⟨#[91]⟩ : ByteArray) ++ t209) ++ (⟨#[44, 32]⟩ : ByteArray)) ++ t210).size + 1 ≤ 9223372036854775807 then (some (((((⟨#[91]⟩ : ByteArray) ++ t209) ++ (⟨#[44, 32]⟩ : ByteArray)) ++ t210) ++ (⟨#[93]⟩ : ByteArray))) else (none)) else (none)) = some r := H
        have A15 := Aside0.mk A150
        clear A150
        by_cases c16 : (((⟨#[91]⟩ : ByteArray) ++ t209) ++ (⟨#[44, 32]⟩ : ByteArray)).size + t210.size ≤ 9223372036854775807
        · rw [if_pos c16] at H
          have c16b0 := eq_true c16
          have c16b1 : decide ((((⟨#[91]⟩ : ByteArray) ++ t209) ++ (⟨#[44, 32]⟩ : ByteArray)).size + t210.size ≤ 9223372036854775807) = true := decide_eq_true c16
          try have c16b2 : (9223372036854775807 < (((⟨#[91]⟩ : ByteArray) ++ t209) ++ (⟨#[44, 32]⟩ : ByteArray)).size + t210.size) = False := eq_false (Nat.not_lt.2 c16)
          try (have c16b3 := c16b2; simp only [ByteArray.size_append, show (⟨#[91]⟩ : ByteArray).size = 1 from rfl, show (⟨#[44, 32]⟩ : ByteArray).size = 2 from rfl] at c16b3)
          by_cases c17 : ((((⟨#[91]⟩ : ByteArray) ++ t209) ++ (⟨#[44, 32]⟩ : ByteArray)) ++ t210).size + 1 ≤ 9223372036854775807
          · rw [if_pos c17] at H
            have c17b0 := eq_true c17
            have c17b1 : decide (((((⟨#[91]⟩ : ByteArray) ++ t209) ++ (⟨#[44, 32]⟩ : ByteArray)) ++ t210).size + 1 ≤ 9223372036854775807) = true := decide_eq_true c17
            try have c17b2 : (9223372036854775807 < ((((⟨#[91]⟩ : ByteArray) ++ t209) ++ (⟨#[44, 32]⟩ : ByteArray)) ++ t210).size + 1) = False := eq_false (Nat.not_lt.2 c17)
            try (have c17b3 := c17b2; simp only [ByteArray.size_append, show (⟨#[91]⟩ : ByteArray).size = 1 from rfl, show (⟨#[44, 32]⟩ : ByteArray).size = 2 from rfl] at c17b3)
            obtain rfl := Option.some.inj H
            go_enter Tryd.func34, Tryd.ntmps34
            try go_wp2_with (first | ((with_reducible refine gate_dst (N := 1) rfl ?_); refine box_event ?hg (N := 1) ?hd (cs := #[.int .i64 a0_0, .int .i64 a0_1]) (t := 23) ?hr ?_; (case hd => rfl); (case hg => rfl); (case hr => first | (go_simp; done) | (go_simp; rfl)); intro gb204 hg w18 hbox hb; have n0_ := Aside0.mk (below_step HB_ hb); have n1_ := Aside0.mk (hbox); have n2_ := Aside0.mk ((by rw [hg]; exact (below_size HB_) : w.heap.size ≤ gb204)); have n3_ := Aside0.mk ((by rw [hg]; exact (below_size HB_) : w.heap.size ≤ gb204)); clear HB; have HB := n0_; have BK204 := n1_; have GW204 := n2_; have GE204 := n3_; clear n0_ n1_ n2_ n3_; clear hb hbox hg; have hcz19_0 : w18.cell? ⟨gb204, 0, none⟩ = some (.int .i64 a0_0) := (blk_cell BK204.out 0).trans rfl; have hcz19_1 : w18.cell? ⟨gb204, 1, none⟩ = some (.int .i64 a0_1) := (blk_cell BK204.out 1).trans rfl; have hfz19_0 := blk_frozen BK204.out 0; have hfz19_1 := blk_frozen BK204.out 1) | ((with_reducible refine gate_callee (f := 39) rfl ?_); refine goesL_ (some 4) rfl rfl Tryd.func39 (by kernel_rfl) rfl #[.agg #[.int .i64 a0_0, .int .i64 a0_1]] rfl MP_ ?_; (with_reducible refine (itv_plain.calls a0_0 a0_1 t205 t206 _ A2.out).mono ?_); rintro e w20 ⟨rfl, hb⟩; refine ⟨_, rfl, ?_⟩; have n0_ := Aside0.mk (blk_below (g := gb204) (o := .cells #[.int .i64 a0_0, .int .i64 a0_1] 23 (0, 0)) (bk_ BK204.out) hb); have n1_ := Aside0.mk (below_step HB_ hb); clear BK204; clear HB; have BK204 := n0_; have HB := n1_; clear n0_ n1_; (try clear hb); (try clear hb2); (try clear hk); (try clear hi); have hcz21_0 : w20.cell? ⟨gb204, 0, none⟩ = some (.int .i64 a0_0) := (blk_cell BK204.out 0).trans rfl; have hcz21_1 : w20.cell? ⟨gb204, 1, none⟩ = some (.int .i64 a0_1) := (blk_cell BK204.out 1).trans rfl; have hfz21_0 := blk_frozen BK204.out 0; have hfz21_1 := blk_frozen BK204.out 1))
            have n0_ : Aside0 (((w20.setCell ⟨gb204, 0, none⟩ (.int .i64 t205)).setCell ⟨gb204, 1, none⟩ (.int .i64 t206)).heap[gb204]? = some (.cells #[.int .i64 t205, .int .i64 t206] 23 (0, 0))) := ⟨by (with_reducible repeat (first | refine blk_drewN ?_ _ | refine blk_drew ?_ | refine blk_alloc ?_ _)); refine blk_put (cs := #[.int .i64 t205, .int .i64 a0_1]) ?_ 1 _ rfl; (with_reducible repeat (first | refine blk_drewN ?_ _ | refine blk_drew ?_ | refine blk_alloc ?_ _)); refine blk_put (cs := #[.int .i64 a0_0, .int .i64 a0_1]) ?_ 0 _ rfl; (with_reducible repeat (first | refine blk_drewN ?_ _ | refine blk_drew ?_ | refine blk_alloc ?_ _)); exact BK204.out⟩
            have n1_ : Aside0 (Below w.heap.size w ((w20.setCell ⟨gb204, 0, none⟩ (.int .i64 t205)).setCell ⟨gb204, 1, none⟩ (.int .i64 t206))) := ⟨by repeat (first | (with_reducible first | exact HB.out | apply below_alloc | apply pw_below_drewN | apply below_drew1 | refine below_set ?_ GE204.out) | exact HB.out)⟩
            (try clear BK204)
            (try clear HB)
            generalize ((w20.setCell ⟨gb204, 0, none⟩ (.int .i64 t205)).setCell ⟨gb204, 1, none⟩ (.int .i64 t206)) = w22 at n0_ n1_ ⊢
            have BK204 := n0_
            have HB := n1_
            clear n0_ n1_
            first | (obtain ⟨w22, hq_⟩ : ∃ x, x = w22.drewN nd := ⟨_, rfl⟩; rw [← hq_]; have q0_ := Aside0.mk (blk_drewN BK204.out nd); rw [← hq_] at q0_; have q1_ := Aside0.mk (pw_below_drewN HB.out nd); rw [← hq_] at q1_; clear BK204; clear HB; have BK204 := q0_; have HB := q1_; clear hq_ q0_ q1_) | skip
            have n0_ := Aside0.mk (blk_drew BK204.out)
            have n1_ := Aside0.mk (below_drew1 HB.out)
            clear BK204
            clear HB
            have BK204 := n0_
            have HB := n1_
            clear n0_ n1_
            refine start_ (n := 3) (S := fun w' => w'.cell? ⟨gb204, 0, none⟩ = some (.int .i64 t205) ∧ w'.cell? ⟨gb204, 1, none⟩ = some (.int .i64 t206)) (ds := []) #[false, false, false] (by kernel_rfl) rfl rfl ⟨(blk_cell BK204.out 0).trans rfl, (blk_cell BK204.out 1).trans rfl⟩ (fun hHeld => ?_)
            generalize w22.drew = w23 at BK204 HB hHeld ⊢
            refine take_ (i := 0) (N := some 5) (v := ?_) (a' := ?_) #[true, false, false] rfl rfl (by kernel_rfl) (fun _ _ _ h => h) (Or.inl ⟨by rfl, ?_⟩) hHeld ?_ ?_
            rotate_left
            · rintro w' ⟨s0, s1⟩
              go_simp
              with_reducible rfl
            rotate_left
            · exact AP_
            refine one_ (i := 1) (N := some 6) #[true, true, false] rfl rfl (by kernel_rfl) (by decide) (fun K hK => ?_)
            refine goes_ Tryd.func33 (by kernel_rfl) rfl #[] (by rfl) rfl rfl MP_ ?_
            with_reducible refine (itv_None.calls  t207 t208 _ A3.out).mono ?_
            rintro e w24 ⟨rfl, hb⟩
            refine ⟨_, rfl, ?_⟩
            have n0_ := Aside0.mk (blk_below (g := gb204) (o := .cells #[.int .i64 t205, .int .i64 t206] 23 (0, 0)) (bk_ BK204.out) hb)
            have n1_ := Aside0.mk (below_step HB_ hb)
            clear BK204
            clear HB
            have BK204 := n0_
            have HB := n1_
            clear n0_ n1_
            (try clear hb)
            (try clear hb2)
            (try clear hk)
            (try clear hi)
            refine hK.out _ _ ⟨(blk_cell BK204.out 0).trans rfl, (blk_cell BK204.out 1).trans rfl⟩ (fun hHeld => ?_)
            clear hK K
            refine norm_ (a' := ?_) ?_ ?_
            rotate_left
            · show Act.put _ (some 6) _ = _
              simp only [Act.put, List.setIfInBounds_toArray, List.set_cons_zero, List.set_cons_succ, i64_w, i32_w]
              rfl
            refine pure_ (i := 2) (N := some 7) (v := ?_) (a' := ?_) #[true, true, true] rfl rfl (by kernel_rfl) (fun _ _ _ h => h) (Or.inl ⟨by rfl, ?_⟩) ?_ ?_
            rotate_left
            · intro w'
              go_simp
              with_reducible rfl
            rotate_left
            · exact AP_
            refine done_ (by kernel_rfl) ?_
            try go_wp2
            first | (obtain ⟨w24, hq_⟩ : ∃ x, x = w24.drewN nd := ⟨_, rfl⟩; rw [← hq_]; have q0_ := Aside0.mk (blk_drewN BK204.out nd); rw [← hq_] at q0_; have q1_ := Aside0.mk (pw_below_drewN HB.out nd); rw [← hq_] at q1_; clear BK204; clear HB; have BK204 := q0_; have HB := q1_; clear hq_ q0_ q1_) | skip
            have n0_ := Aside0.mk (blk_drew BK204.out)
            have n1_ := Aside0.mk (below_drew1 HB.out)
            clear BK204
            clear HB
            have BK204 := n0_
            have HB := n1_
            clear n0_ n1_
            refine start_ (n := 11) (S := fun w' => w'.cell? ⟨gb204, 0, none⟩ = some (.int .i64 t205) ∧ w'.cell? ⟨gb204, 1, none⟩ = some (.int .i64 t206)) (ds := []) #[false, false, false, false, false, false, false, false, false, false, false] (by kernel_rfl) rfl rfl ⟨(blk_cell BK204.out 0).trans rfl, (blk_cell BK204.out 1).trans rfl⟩ (fun hHeld => ?_); refine with_tabW itv_Show.tab4 itv_Show.bits4 (fun HT_ HW_ => ?_)
            generalize w24.drew = w25 at BK204 HB hHeld ⊢
            refine pure_ (i := 0) (N := some 8) (v := ?_) (a' := ?_) #[true, false, false, false, false, false, false, false, false, false, false] rfl rfl (any_of HT_.out (by kernel_rfl)) (fun _ _ _ h => h) (Or.inl ⟨by rfl, ?_⟩) ?_ ?_
            rotate_left
            · intro w'
              go_simp
              with_reducible rfl
            rotate_left
            · exact AP_
            refine pure_ (i := 5) (N := some 13) (v := ?_) (a' := ?_) #[true, false, false, false, false, true, false, false, false, false, false] rfl rfl (any_of HT_.out (by kernel_rfl)) (fun _ _ _ h => h) (Or.inl ⟨by rfl, ?_⟩) ?_ ?_
            rotate_left
            · intro w'
              go_simp
              with_reducible rfl
            rotate_left
            · exact AP_
            refine take_ (i := 1) (N := some 9) (v := ?_) (a' := ?_) #[true, true, false, false, false, true, false, false, false, false, false] rfl rfl (take_ofW HT_.out HW_.out (by kernel_rfl)) (fun _ _ _ h => h) (Or.inl ⟨by rfl, ?_⟩) hHeld ?_ ?_
            rotate_left
            · rintro w' ⟨s0, s1⟩
              go_simp
              with_reducible rfl
            rotate_left
            · exact AP_
            refine take_ (i := 6) (N := some 14) (v := ?_) (a' := ?_) #[true, true, false, false, false, true, true, false, false, false, false] rfl rfl (take_ofW HT_.out HW_.out (by kernel_rfl)) (fun _ _ _ h => h) (Or.inl ⟨by rfl, ?_⟩) hHeld ?_ ?_
            rotate_left
            · rintro w' ⟨s0, s1⟩
              go_simp
              with_reducible rfl
            rotate_left
            · exact AP_
            refine one_ (i := 2) (N := some 10) #[true, true, true, false, false, true, true, false, false, false, false] rfl rfl (one_of HT_.out (by kernel_rfl)) (by decide) (fun K hK => ?_)
            refine goes_ Tryd.func43 (by kernel_rfl) rfl #[.int .i64 t205] (by rfl) rfl rfl MP_ ?_
            with_reducible refine (val_Show.calls t205 t209 _ (tb_below HTB.out HB_) A12.out).mono ?_
            rintro e w26 ⟨rfl, hb⟩
            refine ⟨_, rfl, ?_⟩
            have n0_ := Aside0.mk (blk_below (g := gb204) (o := .cells #[.int .i64 t205, .int .i64 t206] 23 (0, 0)) (bk_ BK204.out) hb)
            have n1_ := Aside0.mk (below_step HB_ hb)
            clear BK204
            clear HB
            have BK204 := n0_
            have HB := n1_
            clear n0_ n1_
            (try clear hb)
            (try clear hb2)
            (try clear hk)
            (try clear hi)
            refine hK.out _ _ ⟨(blk_cell BK204.out 0).trans rfl, (blk_cell BK204.out 1).trans rfl⟩ (fun hHeld => ?_)
            clear hK K
            refine norm_ (a' := ?_) ?_ ?_
            rotate_left
            · show Act.put _ (some 10) _ = _
              simp only [Act.put, List.setIfInBounds_toArray, List.set_cons_zero, List.set_cons_succ, i64_w, i32_w]
              rfl
            refine pure_ (i := 3) (N := some 11) (v := ?_) (a' := ?_) #[true, true, true, true, false, true, true, false, false, false, false] rfl rfl (any_of HT_.out (by kernel_rfl)) (fun _ _ _ h => h) (Or.inl ⟨by rfl, ?_⟩) ?_ ?_
            rotate_left
            · intro w'
              go_simp
              with_reducible rfl
            rotate_left
            · exact AP_
            refine pure_ (i := 4) (N := some 12) (v := ?_) (a' := ?_) #[true, true, true, true, true, true, true, false, false, false, false] rfl rfl (any_of HT_.out (by kernel_rfl)) (fun _ _ _ h => h) (Or.inl ⟨by rfl, ?_⟩) ?_ ?_
            rotate_left
            · intro w'
              go_simp
              with_reducible rfl
            rotate_left
            · exact AP_
            refine one_ (i := 7) (N := some 15) #[true, true, true, true, true, true, true, true, false, false, false] rfl rfl (one_of HT_.out (by kernel_rfl)) (by decide) (fun K hK => ?_)
            refine goes_ Tryd.func43 (by kernel_rfl) rfl #[.int .i64 t206] (by rfl) rfl rfl MP_ ?_
            with_reducible refine (val_Show.calls t206 t210 _ (tb_below HTB.out HB_) A15.out).mono ?_
            rintro e w27 ⟨rfl, hb⟩
            refine ⟨_, rfl, ?_⟩
            have n0_ := Aside0.mk (blk_below (g := gb204) (o := .cells #[.int .i64 t205, .int .i64 t206] 23 (0, 0)) (bk_ BK204.out) hb)
            have n1_ := Aside0.mk (below_step HB_ hb)
            clear BK204
            clear HB
            have BK204 := n0_
            have HB := n1_
            clear n0_ n1_
            (try clear hb)
            (try clear hb2)
            (try clear hk)
            (try clear hi)
            refine hK.out _ _ ⟨(blk_cell BK204.out 0).trans rfl, (blk_cell BK204.out 1).trans rfl⟩ (fun hHeld => ?_)
            clear hK K
            refine norm_ (a' := ?_) ?_ ?_
            rotate_left
            · show Act.put _ (some 15) _ = _
              simp only [Act.put, List.setIfInBounds_toArray, List.set_cons_zero, List.set_cons_succ, i64_w, i32_w]
              rfl
            refine pure_ (i := 8) (N := some 16) (v := ?_) (a' := ?_) #[true, true, true, true, true, true, true, true, true, false, false] rfl rfl (any_of HT_.out (by kernel_rfl)) (fun _ _ _ h => h) (Or.inl ⟨by rfl, ?_⟩) ?_ ?_
            rotate_left
            · intro w'
              go_simp
              with_reducible rfl
            rotate_left
            · exact AP_
            refine pure_ (i := 9) (N := some 17) (v := ?_) (a' := ?_) #[true, true, true, true, true, true, true, true, true, true, false] rfl rfl (any_of HT_.out (by kernel_rfl)) (fun _ _ _ h => h) (Or.inl ⟨by rfl, ?_⟩) ?_ ?_
            rotate_left
            · intro w'
              go_simp
              with_reducible rfl
            rotate_left
            · exact AP_
            refine pure_ (i := 10) (N := some 2) (v := ?_) (a' := ?_) #[true, true, true, true, true, true, true, true, true, true, true] rfl rfl (any_of HT_.out (by kernel_rfl)) (fun _ _ _ h => h) (Or.inl ⟨by rfl, ?_⟩) ?_ ?_
            rotate_left
            · intro w'
              go_simp
              with_reducible rfl
            rotate_left
            · exact AP_
            refine done_ (done_of HT_.out (by kernel_rfl)) ?_
            try go_wp2
            go_ret
            exact ⟨by first | rfl | (simp [errW_none, errW_some] <;> rfl) | (simp [*, errW_none, errW_some] <;> rfl), by repeat (first | (with_reducible first | exact HB.out | apply below_alloc | apply pw_below_drewN | apply below_drew1 | refine below_set ?_ GE204.out) | exact HB.out)⟩
          · rw [if_neg c17] at H
            exact absurd H (by simp)
        · rw [if_neg c16] at H
          exact absurd H (by simp)
      · rw [if_neg c14] at H
        exact absurd H (by simp)
    · rw [if_neg c13] at H
      exact absurd H (by simp)

end Go.Proofs.YtkailfmehmgolaaDoor.R

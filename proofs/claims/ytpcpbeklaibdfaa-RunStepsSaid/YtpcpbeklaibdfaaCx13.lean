import Derived.Test.YtpcpbeklaibdfaaCx0
import Derived.Test.YtpcpbeklaibdfaaCx4
import Derived.Test.YtpcpbeklaibdfaaCx5
import Derived.Test.YtpcpbeklaibdfaaCx6
namespace Go.Proofs.Ytpcpbeklaibdfaa.C
open Go.RowKit Go.Proofs.YtpcpbeklaibdfaaW.PrintWords Go.Proofs.YtpcpbeklaibdfaaW.PrintLast Go.Proofs.YtpcpbeklaibdfaaW.PrintMore
attribute [local go_sem] max2_int min2_int max_two min_two max_three min_three max_four min_four   -- for this text's walks alone
set_option linter.unusedVariables false
set_option linter.unusedSimpArgs false
/-- Is it a number from 1, or from 0, on, up to another one? -/
def oneB (i n : Int) : Bool := decide (1 ≤ i) && decide (i ≤ n)
def someB (i n : Int) : Bool := decide (0 ≤ i) && decide (i ≤ n)
theorem one_f (i n : Int) : prog_one.f i n = some (oneB i n) := by
  unfold prog_one.f oneB
  by_cases h : i ≥ 1
  rotate_left
  · rw [if_neg h, decide_eq_false (show ¬ 1 ≤ i from h)]; rfl
  rw [if_pos h, decide_eq_true (show 1 ≤ i from h)]; rfl
/-- May it be a spot? -/
def spotB (x : S53) : Bool := nmB plainB x.f0 32 && (nmB pathB x.f1 64 && oneB x.f2 1048576)
set_option maxHeartbeats 4000000 in
set_option maxRecDepth 100000 in
theorem prog_spot.walk (x : S53) (w : World) : Calls Try.prog 42 #[.agg #[.string x.f0, .string x.f1, .int .i64 x.f2]] w fun e w' => e = .returned (.bool (spotB x)) ∧ Below w.heap.size w w' := by
  have hu := Try.underlying53
  generalize hR : spotB x = R
  have HV := Aside0.mk hR
  clear hR
  have HB := Aside0.mk (Below.refl w.heap.size w)
  cases h1 : nmB plainB x.f0 32 with
  | false =>
    have H1 := Aside0.mk h1
    clear h1
    go_enter Try.func42, Try.ntmps42
    go_wp2_with (first | ((with_reducible refine gate_dst (N := 1) rfl ?_); refine bx_ (N := 1) (cs := #[.string x.f0, .string x.f1, .int .i64 x.f2]) (t := 53) ?_; intro gz hg w4 hbox hb; have n_ := a_ (bs_ HB hb) (a_ (Aside0.mk hbox) (gs_ HB hg)); clear HB hbox hb hg; obtain ⟨HB, Bgz, Ggz⟩ := n_; have hgz0 : w4.cell? ⟨gz, 0, none⟩ = some (.string x.f0) := (blk_cell Bgz.out 0).trans rfl; have hgz1 : w4.cell? ⟨gz, 1, none⟩ = some (.string x.f1) := (blk_cell Bgz.out 1).trans rfl; have hgz2 : w4.cell? ⟨gz, 2, none⟩ = some (.int .i64 x.f2) := (blk_cell Bgz.out 2).trans rfl) | ((with_reducible refine gate_callee (f := 37) rfl ?_); (try (refine gate_guard (by rfl) ?_; dsimp only)); (with_reducible refine gate_dst (N := 5) rfl ?_); refine goesL_ (some 5) rfl rfl Try.func37 (by kernel_rfl) rfl #[.string x.f0] rfl MP_ ?_; refine (prog_name.walk x.f0 _).mono ?_; rintro e w5 ⟨he, hd_⟩; rw [H1.out] at he; subst he; refine ⟨_, rfl, ?_⟩; have hb := id hd_; clear hd_; (try clear hgz0 hgz1 hgz2); have n_ := a_ (bb_ Bgz hb) (bs_ HB hb); clear HB Bgz hb; obtain ⟨Bgz, HB⟩ := n_; have hgz0 : w5.cell? ⟨gz, 0, none⟩ = some (.string x.f0) := (blk_cell Bgz.out 0).trans rfl; have hgz1 : w5.cell? ⟨gz, 1, none⟩ = some (.string x.f1) := (blk_cell Bgz.out 1).trans rfl; have hgz2 : w5.cell? ⟨gz, 2, none⟩ = some (.int .i64 x.f2) := (blk_cell Bgz.out 2).trans rfl))
    go_ret
    exact ⟨by rw [← HV.out, spotB, H1.out]; rfl, HB.out⟩
  | true =>
    have H1 := Aside0.mk h1
    clear h1
    cases h2 : nmB pathB x.f1 64 with
    | false =>
      have H2 := Aside0.mk h2
      clear h2
      go_enter Try.func42, Try.ntmps42
      go_wp2_with (first | ((with_reducible refine gate_dst (N := 1) rfl ?_); refine bx_ (N := 1) (cs := #[.string x.f0, .string x.f1, .int .i64 x.f2]) (t := 53) ?_; intro gz hg w4 hbox hb; have n_ := a_ (bs_ HB hb) (a_ (Aside0.mk hbox) (gs_ HB hg)); clear HB hbox hb hg; obtain ⟨HB, Bgz, Ggz⟩ := n_; have hgz0 : w4.cell? ⟨gz, 0, none⟩ = some (.string x.f0) := (blk_cell Bgz.out 0).trans rfl; have hgz1 : w4.cell? ⟨gz, 1, none⟩ = some (.string x.f1) := (blk_cell Bgz.out 1).trans rfl; have hgz2 : w4.cell? ⟨gz, 2, none⟩ = some (.int .i64 x.f2) := (blk_cell Bgz.out 2).trans rfl) | ((with_reducible refine gate_callee (f := 37) rfl ?_); (try (refine gate_guard (by rfl) ?_; dsimp only)); (with_reducible refine gate_dst (N := 5) rfl ?_); refine goesL_ (some 5) rfl rfl Try.func37 (by kernel_rfl) rfl #[.string x.f0] rfl MP_ ?_; refine (prog_name.walk x.f0 _).mono ?_; rintro e w5 ⟨he, hd_⟩; rw [H1.out] at he; subst he; refine ⟨_, rfl, ?_⟩; have hb := id hd_; clear hd_; (try clear hgz0 hgz1 hgz2); have n_ := a_ (bb_ Bgz hb) (bs_ HB hb); clear HB Bgz hb; obtain ⟨Bgz, HB⟩ := n_; have hgz0 : w5.cell? ⟨gz, 0, none⟩ = some (.string x.f0) := (blk_cell Bgz.out 0).trans rfl; have hgz1 : w5.cell? ⟨gz, 1, none⟩ = some (.string x.f1) := (blk_cell Bgz.out 1).trans rfl; have hgz2 : w5.cell? ⟨gz, 2, none⟩ = some (.int .i64 x.f2) := (blk_cell Bgz.out 2).trans rfl) | ((with_reducible refine gate_callee (f := 55) rfl ?_); (try (refine gate_guard (by rfl) ?_; dsimp only)); (with_reducible refine gate_dst (N := 9) rfl ?_); refine goesL_ (some 9) rfl rfl Try.func55 (by kernel_rfl) rfl #[.string x.f1, .int .i64 64, .func (.func 58) #[] #[]] rfl MP_ ?_; refine (named_path x.f1 64 _).mono ?_; rintro e w6 ⟨he, hd_⟩; rw [H2.out] at he; subst he; refine ⟨_, rfl, ?_⟩; have hb := id hd_; clear hd_; (try clear hgz0 hgz1 hgz2); have n_ := a_ (bb_ Bgz hb) (bs_ HB hb); clear HB Bgz hb; obtain ⟨Bgz, HB⟩ := n_; have hgz0 : w6.cell? ⟨gz, 0, none⟩ = some (.string x.f0) := (blk_cell Bgz.out 0).trans rfl; have hgz1 : w6.cell? ⟨gz, 1, none⟩ = some (.string x.f1) := (blk_cell Bgz.out 1).trans rfl; have hgz2 : w6.cell? ⟨gz, 2, none⟩ = some (.int .i64 x.f2) := (blk_cell Bgz.out 2).trans rfl))
      go_ret
      exact ⟨by rw [← HV.out, spotB, H1.out, H2.out]; rfl, HB.out⟩
    | true =>
      have H2 := Aside0.mk h2
      clear h2
      go_enter Try.func42, Try.ntmps42
      go_wp2_with (first | ((with_reducible refine gate_dst (N := 1) rfl ?_); refine bx_ (N := 1) (cs := #[.string x.f0, .string x.f1, .int .i64 x.f2]) (t := 53) ?_; intro gz hg w4 hbox hb; have n_ := a_ (bs_ HB hb) (a_ (Aside0.mk hbox) (gs_ HB hg)); clear HB hbox hb hg; obtain ⟨HB, Bgz, Ggz⟩ := n_; have hgz0 : w4.cell? ⟨gz, 0, none⟩ = some (.string x.f0) := (blk_cell Bgz.out 0).trans rfl; have hgz1 : w4.cell? ⟨gz, 1, none⟩ = some (.string x.f1) := (blk_cell Bgz.out 1).trans rfl; have hgz2 : w4.cell? ⟨gz, 2, none⟩ = some (.int .i64 x.f2) := (blk_cell Bgz.out 2).trans rfl) | ((with_reducible refine gate_callee (f := 37) rfl ?_); (try (refine gate_guard (by rfl) ?_; dsimp only)); (with_reducible refine gate_dst (N := 5) rfl ?_); refine goesL_ (some 5) rfl rfl Try.func37 (by kernel_rfl) rfl #[.string x.f0] rfl MP_ ?_; refine (prog_name.walk x.f0 _).mono ?_; rintro e w5 ⟨he, hd_⟩; rw [H1.out] at he; subst he; refine ⟨_, rfl, ?_⟩; have hb := id hd_; clear hd_; (try clear hgz0 hgz1 hgz2); have n_ := a_ (bb_ Bgz hb) (bs_ HB hb); clear HB Bgz hb; obtain ⟨Bgz, HB⟩ := n_; have hgz0 : w5.cell? ⟨gz, 0, none⟩ = some (.string x.f0) := (blk_cell Bgz.out 0).trans rfl; have hgz1 : w5.cell? ⟨gz, 1, none⟩ = some (.string x.f1) := (blk_cell Bgz.out 1).trans rfl; have hgz2 : w5.cell? ⟨gz, 2, none⟩ = some (.int .i64 x.f2) := (blk_cell Bgz.out 2).trans rfl) | ((with_reducible refine gate_callee (f := 55) rfl ?_); (try (refine gate_guard (by rfl) ?_; dsimp only)); (with_reducible refine gate_dst (N := 9) rfl ?_); refine goesL_ (some 9) rfl rfl Try.func55 (by kernel_rfl) rfl #[.string x.f1, .int .i64 64, .func (.func 58) #[] #[]] rfl MP_ ?_; refine (named_path x.f1 64 _).mono ?_; rintro e w6 ⟨he, hd_⟩; rw [H2.out] at he; subst he; refine ⟨_, rfl, ?_⟩; have hb := id hd_; clear hd_; (try clear hgz0 hgz1 hgz2); have n_ := a_ (bb_ Bgz hb) (bs_ HB hb); clear HB Bgz hb; obtain ⟨Bgz, HB⟩ := n_; have hgz0 : w6.cell? ⟨gz, 0, none⟩ = some (.string x.f0) := (blk_cell Bgz.out 0).trans rfl; have hgz1 : w6.cell? ⟨gz, 1, none⟩ = some (.string x.f1) := (blk_cell Bgz.out 1).trans rfl; have hgz2 : w6.cell? ⟨gz, 2, none⟩ = some (.int .i64 x.f2) := (blk_cell Bgz.out 2).trans rfl) | ((with_reducible refine gate_callee (f := 39) rfl ?_); (try (refine gate_guard (by rfl) ?_; dsimp only)); (with_reducible refine gate_dst (N := 14) rfl ?_); refine goesL_ (some 14) rfl rfl Try.func39 (by kernel_rfl) rfl #[.int .i64 x.f2, .int .i64 1048576] rfl MP_ ?_; refine (prog_one.calls x.f2 1048576 _ _ (one_f _ _)).mono ?_; rintro e w7 ⟨he, hd_⟩; subst he; refine ⟨_, rfl, ?_⟩; have hb := Drawn0.below hd_; clear hd_; (try clear hgz0 hgz1 hgz2); have n_ := a_ (bb_ Bgz hb) (bs_ HB hb); clear HB Bgz hb; obtain ⟨Bgz, HB⟩ := n_; have hgz0 : w7.cell? ⟨gz, 0, none⟩ = some (.string x.f0) := (blk_cell Bgz.out 0).trans rfl; have hgz1 : w7.cell? ⟨gz, 1, none⟩ = some (.string x.f1) := (blk_cell Bgz.out 1).trans rfl; have hgz2 : w7.cell? ⟨gz, 2, none⟩ = some (.int .i64 x.f2) := (blk_cell Bgz.out 2).trans rfl))
      go_ret
      exact ⟨by rw [← HV.out, spotB, H1.out, H2.out]; rfl, HB.out⟩
end Go.Proofs.Ytpcpbeklaibdfaa.C

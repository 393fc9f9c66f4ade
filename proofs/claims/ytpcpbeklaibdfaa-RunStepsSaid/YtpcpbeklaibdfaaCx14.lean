import Derived.Test.YtpcpbeklaibdfaaCx0
import Derived.Test.YtpcpbeklaibdfaaCx13
namespace Go.Proofs.Ytpcpbeklaibdfaa.C
open Go.RowKit Go.Proofs.YtpcpbeklaibdfaaW.PrintWords Go.Proofs.YtpcpbeklaibdfaaW.PrintLast Go.Proofs.YtpcpbeklaibdfaaW.PrintMore
attribute [local go_sem] max2_int min2_int max_two min_two max_three min_three max_four min_four   -- for this text's walks alone
set_option linter.unusedVariables false
set_option linter.unusedSimpArgs false
set_option maxHeartbeats 4000000 in
set_option maxRecDepth 100000 in
theorem prog_Check_2.walk (x : S53) (w : World) : Calls Try.prog 41 #[.agg #[.string x.f0, .string x.f1, .int .i64 x.f2]] w fun e w' => e = .returned (.bool (!spotB x)) ∧ Below w.heap.size w w' := by
  have hu := Try.underlying53
  have HB := Aside0.mk (Below.refl w.heap.size w)
  go_enter Try.func41, Try.ntmps41
  go_wp2_with (first | ((with_reducible refine gate_dst (N := 1) rfl ?_); refine bx_ (N := 1) (cs := #[.string x.f0, .string x.f1, .int .i64 x.f2]) (t := 53) ?_; intro gz hg w4 hbox hb; have n_ := a_ (bs_ HB hb) (a_ (Aside0.mk hbox) (gs_ HB hg)); clear HB hbox hb hg; obtain ⟨HB, Bgz, Ggz⟩ := n_; have hgz0 : w4.cell? ⟨gz, 0, none⟩ = some (.string x.f0) := (blk_cell Bgz.out 0).trans rfl; have hgz1 : w4.cell? ⟨gz, 1, none⟩ = some (.string x.f1) := (blk_cell Bgz.out 1).trans rfl; have hgz2 : w4.cell? ⟨gz, 2, none⟩ = some (.int .i64 x.f2) := (blk_cell Bgz.out 2).trans rfl) | ((with_reducible refine gate_callee (f := 42) rfl ?_); (try (refine gate_guard (by rfl) ?_; dsimp only)); (with_reducible refine gate_dst (N := 4) rfl ?_); refine goesL_ (some 4) rfl rfl Try.func42 (by kernel_rfl) rfl #[.agg #[.string x.f0, .string x.f1, .int .i64 x.f2]] rfl MP_ ?_; refine (prog_spot.walk x _).mono ?_; rintro e w5 ⟨he, hd_⟩; subst he; refine ⟨_, rfl, ?_⟩; have hb := id hd_; clear hd_; (try clear hgz0 hgz1 hgz2); have n_ := a_ (bb_ Bgz hb) (bs_ HB hb); clear HB Bgz hb; obtain ⟨Bgz, HB⟩ := n_; have hgz0 : w5.cell? ⟨gz, 0, none⟩ = some (.string x.f0) := (blk_cell Bgz.out 0).trans rfl; have hgz1 : w5.cell? ⟨gz, 1, none⟩ = some (.string x.f1) := (blk_cell Bgz.out 1).trans rfl; have hgz2 : w5.cell? ⟨gz, 2, none⟩ = some (.int .i64 x.f2) := (blk_cell Bgz.out 2).trans rfl))
  go_ret
  exact ⟨rfl, HB.out⟩
end Go.Proofs.Ytpcpbeklaibdfaa.C

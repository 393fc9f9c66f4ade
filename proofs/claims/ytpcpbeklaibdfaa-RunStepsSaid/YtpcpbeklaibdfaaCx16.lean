import Derived.Test.YtpcpbeklaibdfaaCx0
namespace Go.Proofs.Ytpcpbeklaibdfaa.C
open Go.RowKit Go.Proofs.YtpcpbeklaibdfaaW.PrintWords Go.Proofs.YtpcpbeklaibdfaaW.PrintLast Go.Proofs.YtpcpbeklaibdfaaW.PrintMore
attribute [local go_sem] max2_int min2_int max_two min_two max_three min_three max_four min_four   -- for this text's walks alone
set_option linter.unusedVariables false
set_option linter.unusedSimpArgs false
theorem prog_kinds.st0 {P : Program} {w : World} {a : Addr} {m : Mode} : (store a .nilFunc m).run P w = stored P w a .nilFunc m := run_store P w a _ m rfl
theorem prog_kinds.st1 {P : Program} {w : World} {a : Addr} {m : Mode} (fn : Fn) (first captured : Array Value) : (store a (.func fn first captured) m).run P w = stored P w a (.func fn first captured) m := run_store P w a _ m rfl
attribute [local go_sem] prog_kinds.st0 prog_kinds.st1
/-- What is asked of each kind's fields. -/
def prog_kinds.V : Array Value := #[.nilFunc, .func (.func 79) #[] #[], .func (.func 80) #[] #[], .func (.func 81) #[] #[], .func (.func 78) #[] #[], .func (.func 78) #[] #[]]
set_option maxHeartbeats 8000000 in
set_option maxRecDepth 100000 in
theorem prog_kinds.calls (w : World) : Calls Try.prog 54 #[] w fun e w' => e = .returned (.agg prog_kinds.V) ∧ Below w.heap.size w w' := by
  have hu := Try.underlying85
  have HB := Aside0.mk (Below.refl w.heap.size w)
  go_enter Try.func54, Try.ntmps54
  go_wp2_with (first | ((with_reducible refine gate_dst (N := 0) rfl ?_); refine bx_ (N := 0) (cs := #[.nilFunc, .nilFunc, .nilFunc, .nilFunc, .nilFunc, .nilFunc]) (t := 85) ?_; intro gr hg w4 hbox hb; have n_ := a_ (bs_ HB hb) (a_ (Aside0.mk hbox) (gs_ HB hg)); clear HB; obtain ⟨HB, BR, GR⟩ := n_; clear hb hbox hg; have hc0 : w4.cell? ⟨gr, 0, none⟩ = some .nilFunc := (blk_cell BR.out 0).trans rfl; have hf0 := blk_frozen BR.out 0; have hc1 : w4.cell? ⟨gr, 1, none⟩ = some .nilFunc := (blk_cell BR.out 1).trans rfl; have hf1 := blk_frozen BR.out 1; have hc2 : w4.cell? ⟨gr, 2, none⟩ = some .nilFunc := (blk_cell BR.out 2).trans rfl; have hf2 := blk_frozen BR.out 2; have hc3 : w4.cell? ⟨gr, 3, none⟩ = some .nilFunc := (blk_cell BR.out 3).trans rfl; have hf3 := blk_frozen BR.out 3; have hc4 : w4.cell? ⟨gr, 4, none⟩ = some .nilFunc := (blk_cell BR.out 4).trans rfl; have hf4 := blk_frozen BR.out 4; have hc5 : w4.cell? ⟨gr, 5, none⟩ = some .nilFunc := (blk_cell BR.out 5).trans rfl; have hf5 := blk_frozen BR.out 5))
  refine bodyPost_ret (results_cell_row rfl _ _ gr 85 prog_kinds.V (0, 0) _ rfl (by refine blk_put (cs := #[.nilFunc, .func (.func 79) #[] #[], .func (.func 80) #[] #[], .func (.func 81) #[] #[], .func (.func 78) #[] #[], .nilFunc]) ?_ 5 _ rfl; refine blk_put (cs := #[.nilFunc, .func (.func 79) #[] #[], .func (.func 80) #[] #[], .func (.func 81) #[] #[], .nilFunc, .nilFunc]) ?_ 4 _ rfl; refine blk_put (cs := #[.nilFunc, .func (.func 79) #[] #[], .func (.func 80) #[] #[], .nilFunc, .nilFunc, .nilFunc]) ?_ 3 _ rfl; refine blk_put (cs := #[.nilFunc, .func (.func 79) #[] #[], .nilFunc, .nilFunc, .nilFunc, .nilFunc]) ?_ 2 _ rfl; refine blk_put (cs := #[.nilFunc, .nilFunc, .nilFunc, .nilFunc, .nilFunc, .nilFunc]) ?_ 1 _ rfl; refine blk_put (cs := #[.nilFunc, .nilFunc, .nilFunc, .nilFunc, .nilFunc, .nilFunc]) ?_ 0 _ rfl; exact BR.out) Try.underlying85 rfl (by kernel_rfl)) rfl ?_
  exact ⟨rfl, (below_set (below_set (below_set (below_set (below_set (below_set HB.out GR.out) GR.out) GR.out) GR.out) GR.out) GR.out)⟩
end Go.Proofs.Ytpcpbeklaibdfaa.C

import Derived.Test.YtpcpbeklaibdfaaCx0
import Derived.Test.YtpcpbeklaibdfaaCx3
import Derived.Test.YtpcpbeklaibdfaaCx4
namespace Go.Proofs.Ytpcpbeklaibdfaa.C
open Go.RowKit Go.Proofs.YtpcpbeklaibdfaaW.PrintWords Go.Proofs.YtpcpbeklaibdfaaW.PrintLast Go.Proofs.YtpcpbeklaibdfaaW.PrintMore
attribute [local go_sem] max2_int min2_int max_two min_two max_three min_three max_four min_four   -- for this text's walks alone
set_option linter.unusedVariables false
set_option linter.unusedSimpArgs false
theorem prog_name.eg (f : FuncId) (fn : Func) (hf : Try.prog.funcs[f]? = some fn) (hname : (fn.name == "runtime.NumGoroutine") = false) (hb : fn.body.isSome = true) (args : Array Value) (w : World) : (callFunc f args).run Try.prog w = .ok (.enter f args) w := enters_ hf hname hb args w
/-- prog.named at the runes that a name may go on with. -/
theorem named_plain (s : ByteArray) (most : Int) (w : World) : Calls Try.prog 55 #[.string s, .int .i64 most, .func (.func 56) #[] #[]] w fun e w' => e = .returned (.bool (nmB plainB s most)) ∧ Below w.heap.size w w' :=
  named_walk 56 (prog_name.eg _ Try.f56 Try.func56 (by kernel_rfl) rfl) plainB (fun _ h => plainB_high h) (fun W c => (prog_plain.calls c _ W (plain_f c)).mono (by rintro e w' ⟨rfl, hd⟩; exact ⟨rfl, hd.below⟩)) s most w
theorem named_path (s : ByteArray) (most : Int) (w : World) : Calls Try.prog 55 #[.string s, .int .i64 most, .func (.func 58) #[] #[]] w fun e w' => e = .returned (.bool (nmB pathB s most)) ∧ Below w.heap.size w w' :=
  named_walk 58 (prog_name.eg _ Try.f58 Try.func58 (by kernel_rfl) rfl) pathB (fun _ h => pathB_high h) (fun W c => (prog_path.calls c _ W (path_f c)).mono (by rintro e w' ⟨rfl, hd⟩; exact ⟨rfl, hd.below⟩)) s most w
set_option maxHeartbeats 4000000 in
set_option maxRecDepth 100000 in
theorem prog_name.walk (s : ByteArray) (w : World) : Calls Try.prog 37 #[.string s] w fun e w' => e = .returned (.bool (nmB plainB s 32)) ∧ Below w.heap.size w w' := by
  have HN := Aside0.mk (named_plain s 32 w)
  go_enter Try.func37, Try.ntmps37
  go_wp2_with (go_at_call 55; refine HN.out.mono ?_; rintro e w5 ⟨rfl, hb⟩; have HB := Aside0.mk hb; clear hb)
  go_ret
  exact ⟨rfl, HB.out⟩
end Go.Proofs.Ytpcpbeklaibdfaa.C

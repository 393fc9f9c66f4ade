import Derived.Test.YtpcpbeklaibdfaaCx0
import Derived.Test.YtpcpbeklaibdfaaCx5
import Derived.Test.YtpcpbeklaibdfaaCx18
import Derived.Test.YtpcpbeklaibdfaaCx21
import Derived.Test.YtpcpbeklaibdfaaCx22
namespace Go.Proofs.Ytpcpbeklaibdfaa.C
open Go.RowKit Go.Proofs.YtpcpbeklaibdfaaW.PrintWords Go.Proofs.YtpcpbeklaibdfaaW.PrintLast Go.Proofs.YtpcpbeklaibdfaaW.PrintMore
attribute [local go_sem] max2_int min2_int max_two min_two max_three min_three max_four min_four   -- for this text's walks alone
set_option linter.unusedVariables false
set_option linter.unusedSimpArgs false
/-- Are these values of so many variables? -/
def valsB (l : List Int) (n : Int) : Bool := decide ((l.length : Int) = n) && !(l.any (fun x => !isB x))
def run_vals.f (l0 : List Int) (a1 : Int) : Option Bool := some (valsB l0 a1)
set_option maxHeartbeats 4000000 in
set_option maxRecDepth 100000 in
theorem run_vals.calls (A0 : Option Addr) (c0 : Nat) (l0 : List Int) (a1 : Int) (r : Bool) (w : World) (hr0 : Kd.C (Kd.int .i64) w A0 l0.length l0) (hc0 : l0.length ≤ c0) (h : run_vals.f l0 a1 = some r) :
    Calls Try.prog 30 #[.slice A0 l0.length c0, .int .i64 a1] w fun e w' => e = .returned (.bool r) ∧ Below w.heap.size w w' := by
  have HV := Aside0.mk (Option.some.inj h)
  clear h
  have HC := Aside0.mk (contains_int_calls 50 #[] (prog_name.eg _ Try.f50 Try.func50 (by kernel_rfl) rfl) (fun x => !isB x) A0 c0 l0 w hr0 hc0 (fun W x _ => by have h_ := run_vals_1.walk x W; simpa using h_))
  clear hr0
  by_cases hl : (l0.length : Int) = a1
  · have HL := Aside0.mk (decide_eq_true hl)
    go_enter Try.func30, Try.ntmps30
    go_wp2_with (first | ((with_reducible refine gate_callee (f := 49) rfl ?_); (try (refine gate_guard (by rfl) ?_; dsimp only)); refine goesL_ (some 11) rfl rfl Try.func49 (by kernel_rfl) rfl #[.slice A0 l0.length c0, .func (.func 50) #[] #[]] rfl MP_ ?_; refine HC.out.mono ?_; rintro e w5 ⟨rfl, hb⟩; refine ⟨_, rfl, ?_⟩; have HB := Aside0.mk hb; clear hb))
    go_ret
    exact ⟨by rw [← HV.out, valsB, HL.out]; rfl, HB.out⟩
  have HL := Aside0.mk (decide_eq_false hl)
  go_enter Try.func30, Try.ntmps30
  go_wp2
  go_ret
  exact ⟨by rw [← HV.out, valsB, HL.out]; rfl, Below.refl _ _⟩
end Go.Proofs.Ytpcpbeklaibdfaa.C

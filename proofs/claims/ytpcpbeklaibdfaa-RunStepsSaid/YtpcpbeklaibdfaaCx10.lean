import Derived.Test.YtpcpbeklaibdfaaCx0
import Derived.Test.YtpcpbeklaibdfaaCx9
import Derived.Test.YtpcpbeklaibdfaaCx20
namespace Go.Proofs.Ytpcpbeklaibdfaa.C
open Go.RowKit Go.Proofs.YtpcpbeklaibdfaaW.PrintWords Go.Proofs.YtpcpbeklaibdfaaW.PrintLast Go.Proofs.YtpcpbeklaibdfaaW.PrintMore
attribute [local go_sem] max2_int min2_int max_two min_two max_three min_three max_four min_four   -- for this text's walks alone
set_option linter.unusedVariables false
set_option linter.unusedSimpArgs false
set_option maxHeartbeats 8000000 in
set_option maxRecDepth 100000 in
theorem api_Spot_40.walk (fid : Nat) (lb : Array Value) (eg : ∀ args w, (callFunc fid args).run Try.prog w = .ok (.enter fid args) w) (p : S53 → Bool) (A0 : Option Addr) (c0 : Nat) (l0 : List S53) (w : World)
    (hr0 : Kd.C k53 w A0 l0.length l0) (hc0 : l0.length ≤ c0)
    (hp : ∀ (W : World) (x : S53), Below w.heap.size w W → Calls Try.prog fid (#[.agg #[.string x.f0, .string x.f1, .int .i64 x.f2]] ++ lb) W fun e W' => e = .returned (.bool (p x)) ∧ Below W.heap.size W W') :
    Calls Try.prog 40 #[.slice A0 l0.length c0, .func (.func fid) #[] lb] w fun e w' => e = .returned (.bool (l0.any p)) ∧ Below w.heap.size w w' := by
  have HC := Aside0.mk (api_Spot_57.walk fid lb eg p A0 c0 l0 w hr0 hc0 hp)
  have HE := Aside0.mk (idxOf_any p l0 0)
  clear hr0 hp eg
  go_enter Try.func40, Try.ntmps40
  go_wp2_with (go_at_call 57; refine HC.out.mono ?_; rintro e w5 ⟨rfl, hb⟩; have HB := Aside0.mk hb; clear hb; generalize idxOf p l0 0 = z at HE)
  go_ret
  exact ⟨by rw [← HE.out]; rfl, HB.out⟩
end Go.Proofs.Ytpcpbeklaibdfaa.C

import Derived.Test.YtpcpbeklaibdfaaCx0
import Derived.Test.YtpcpbeklaibdfaaCx11
import Derived.Test.YtpcpbeklaibdfaaCx20
namespace Go.Proofs.Ytpcpbeklaibdfaa.C
open Go.RowKit Go.Proofs.YtpcpbeklaibdfaaW.PrintWords Go.Proofs.YtpcpbeklaibdfaaW.PrintLast Go.Proofs.YtpcpbeklaibdfaaW.PrintMore
attribute [local go_sem] max2_int min2_int max_two min_two max_three min_three max_four min_four   -- for this text's walks alone
set_option linter.unusedVariables false
set_option linter.unusedSimpArgs false
set_option maxHeartbeats 8000000 in
set_option maxRecDepth 100000 in
theorem api_Edge_43.walk (fid : Nat) (lb : Array Value) (eg : ∀ args w, (callFunc fid args).run Try.prog w = .ok (.enter fid args) w) (p : S57 → Bool) (A0 : Option Addr) (c0 : Nat) (l0 : List S57) (w : World)
    (hr0 : Kd.C k57 w A0 l0.length l0) (hc0 : l0.length ≤ c0)
    (hp : ∀ (W : World) (x : S57), Below w.heap.size w W → Calls Try.prog fid (#[.agg #[.int .i64 x.f0, .int .i64 x.f1, .int .i64 x.f2.f0, .int .i64 x.f2.f1, .int .i64 x.f2.f2, .int .i64 x.f2.f3, .int .i64 x.f2.f4]] ++ lb) W fun e W' => e = .returned (.bool (p x)) ∧ Below W.heap.size W W') :
    Calls Try.prog 43 #[.slice A0 l0.length c0, .func (.func fid) #[] lb] w fun e w' => e = .returned (.bool (l0.any p)) ∧ Below w.heap.size w w' := by
  have HC := Aside0.mk (api_Edge_59.walk fid lb eg p A0 c0 l0 w hr0 hc0 hp)
  have HE := Aside0.mk (idxOf_any p l0 0)
  clear hr0 hp eg
  go_enter Try.func43, Try.ntmps43
  go_wp2_with (go_at_call 59; refine HC.out.mono ?_; rintro e w5 ⟨rfl, hb⟩; have HB := Aside0.mk hb; clear hb; generalize idxOf p l0 0 = z at HE)
  go_ret
  exact ⟨by rw [← HE.out]; rfl, HB.out⟩
end Go.Proofs.Ytpcpbeklaibdfaa.C

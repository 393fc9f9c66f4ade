import Derived.Test.YtpcpbeklaibdfaaCx0
import Derived.Test.YtpcpbeklaibdfaaCx27
namespace Go.Proofs.Ytpcpbeklaibdfaa.C
open Go.RowKit Go.Proofs.YtpcpbeklaibdfaaW.PrintWords Go.Proofs.YtpcpbeklaibdfaaW.PrintLast Go.Proofs.YtpcpbeklaibdfaaW.PrintMore
attribute [local go_sem] max2_int min2_int max_two min_two max_three min_three max_four min_four   -- for this text's walks alone
set_option linter.unusedVariables false
set_option linter.unusedSimpArgs false
set_option maxHeartbeats 8000000 in
set_option maxRecDepth 100000 in
theorem run_mover_check.walk (k x y c d ch : Int) (vs : List Int) (AV : Option Addr) (cap : Nat) (g : Nat) (hx0 : 0 ≤ x) (hx1 : x ≤ vs.length) (hy0 : 0 ≤ y) (hy1 : y ≤ vs.length) (w : World) (hbk : w.heap[g]? = some (.cells #[.int .i64 k, .int .i64 x, .int .i64 y, .int .i64 c, .int .i64 d, .slice AV vs.length cap, .int .i64 ch] 73 (0, 0))) (hC : Kd.C (Kd.int .i64) w AV vs.length vs) :
    Calls Try.prog 64 #[.pointer (some ⟨g, 0, none⟩)] w fun e w' => e = .returned (.int .i64 (if limB vs x y c = 0 then 0 else 131)) ∧ Below w.heap.size w w' := by
  have HN := Aside0.mk (run_mover_limit.walk k x y c d ch vs AV cap g hx0 hx1 hy0 hy1 w hbk hC)
  clear hbk hC
  have hl : limB vs x y c = 0 ∨ limB vs x y c = 130 := by unfold limB; split <;> simp
  rcases hl with hl | hl
  · rw [hl] at HN ⊢
    clear hl
    go_enter Try.func64, Try.ntmps64
    go_wp2_with (go_at_call 63; refine HN.out.mono ?_; rintro e w5 ⟨rfl, hb⟩; have HB := Aside0.mk hb; clear hb)
    go_ret
    exact ⟨rfl, HB.out⟩
  · rw [hl] at HN ⊢
    clear hl
    go_enter Try.func64, Try.ntmps64
    go_wp2_with (go_at_call 63; refine HN.out.mono ?_; rintro e w5 ⟨rfl, hb⟩; have HB := Aside0.mk hb; clear hb)
    go_ret
    exact ⟨rfl, HB.out⟩
end Go.Proofs.Ytpcpbeklaibdfaa.C

import Derived.Test.YtgeemdpflcefkaaYx0
import Derived.Test.YtgeemdpflcefkaaYx37
namespace Go.Proofs.Ytgeemdpflcefkaa.Y
open Go.RowKit Go.Proofs.YtgeemdpflcefkaaW.PrintWords Go.Proofs.YtgeemdpflcefkaaW.PrintLast Go.Proofs.YtgeemdpflcefkaaW.PrintMore
attribute [local go_sem] max2_int min2_int max_two min_two max_three min_three max_four min_four   -- for this text's walks alone
set_option linter.unusedVariables false
set_option linter.unusedSimpArgs false
/-- Is a number none of a zone's variables? -/
def oddVar (a0 : Int) (x : Int) : Bool := decide (x < 0) || decide (a0 < x)
set_option maxHeartbeats 8000000 in
set_option maxRecDepth 100000 in
theorem some_odd_calls (gb : Nat) (a0 : Int) (v1 : Value) (x : Int) (w : World) (hbk : w.heap[gb]? = some (.cells #[.int .i64 a0, v1] 24 (0, 0))) :
   Calls Try.prog 103 (#[.int .i64 x] ++ #[.pointer (some ⟨gb, 0, none⟩)]) w fun e w' => e = .returned (.bool (oddVar a0 x)) ∧ Below w.heap.size w w' := by
 have hc0 : w.cell? ⟨gb, 0, none⟩ = some (.int .i64 a0) := (blk_cell hbk 0).trans rfl
 clear hbk
 show Calls Try.prog 103 #[.int .i64 x, .pointer (some ⟨gb, 0, none⟩)] w _
 by_cases h1 : x < 0
 rotate_left
 · have h1b : decide (x < 0) = false := decide_eq_false h1
   have HF : Aside0 (oddVar a0 x = decide (a0 < x)) := ⟨by simp [oddVar, h1]⟩
   go_enter Try.func103, Try.ntmps103
   go_wp2
   go_ret
   exact ⟨by rw [HF.out]; rfl, Below.refl _ _⟩
 have h1b : decide (x < 0) = true := decide_eq_true h1
 have HF : Aside0 (oddVar a0 x = true) := ⟨by simp [oddVar, h1]⟩
 go_enter Try.func103, Try.ntmps103
 go_wp2
 go_ret
 exact ⟨by rw [HF.out]; rfl, Below.refl _ _⟩
def dbm_some_1.f (a0_0 : Int) (l0_1 : List Int) (l1 : List Int) : Option Bool := some (l1.any (oddVar a0_0))
theorem dbm_some_1.calls (gb : Nat) (a0_0 : Int) (A0_1 : Option Addr) (c0_1 : Nat) (l0_1 : List Int) (A1 : Option Addr) (c1 : Nat) (l1 : List Int) (r : Bool) (w : World) (hbk : w.heap[gb]? = some (.cells #[.int .i64 a0_0, .slice A0_1 l0_1.length c0_1] 24 (0, 0)))
  (hr1 : Kd.C (Kd.int .i64) w A1 l1.length l1) (hc1 : l1.length ≤ c1) (h : dbm_some_1.f a0_0 l0_1 l1 = some r) :
  Calls Try.prog 104 #[.slice A1 l1.length c1, .func (.func 103) #[] #[.pointer (some ⟨gb, 0, none⟩)]] w fun e w' => e = .returned (.bool r) ∧ Below w.heap.size w w' := by
 obtain rfl := Option.some.inj h
 exact contains_int_calls 103 _ (fun args w => enters_ Try.func103 (by kernel_rfl) rfl args w) _ A1 c1 l1 w hr1 hc1 (fun W x hW => some_odd_calls gb a0_0 _ x W (blk_below hbk hW))
end Go.Proofs.Ytgeemdpflcefkaa.Y

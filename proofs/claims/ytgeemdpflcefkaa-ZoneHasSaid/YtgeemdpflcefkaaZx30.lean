-- WRITTEN BY this session's program wip/ext.py, in print.py's manner
import Derived.Test.YtgeemdpflcefkaaZx0
import Derived.Test.YtgeemdpflcefkaaZx3
import Derived.Test.YtgeemdpflcefkaaZx4
import Derived.Test.YtgeemdpflcefkaaZx5
namespace Go.Proofs.Ytgeemdpflcefkaa.Z
open Go.RowKit Go.Proofs.YtgeemdpflcefkaaW.PrintWords Go.Proofs.YtgeemdpflcefkaaW.PrintLast Go.Proofs.YtgeemdpflcefkaaW.PrintMore
attribute [local go_sem] max2_int min2_int max_two min_two max_three min_three max_four min_four   -- for this text's walks alone
set_option linter.unusedVariables false
set_option linter.unusedSimpArgs false

/-! ### ext dbm_All: function 87 -/
theorem mostAt_calls (W : World) (i j : Nat) : Calls Try.prog 110 (#[.int .i64 i, .int .i64 j] ++ #[]) W fun e W' => e = .returned (.int .i64 (mostF i j)) ∧ Below W.heap.size W W' :=
  (dbm_most.calls i j _ W (most_some _ _)).mono fun e w' ⟨he, ⟨nd, hw⟩⟩ => ⟨he, by rw [hw]; exact pw_below_drewN (Below.refl _ _) nd⟩

/-- 'each' with the greatest differences. -/
def dbm_grid_each.f (a0_0 : Int) (l0_1 : List Int) : Option (List Int) :=
  if 0 ≤ a0_0 ∧ a0_0 ≤ 8 ∧ l0_1.length = (a0_0.toNat + 1) * (a0_0.toNat + 1) then some (eachTo (fun _ => mostF) a0_0.toNat l0_1 ((a0_0.toNat + 1) * (a0_0.toNat + 1))) else none
theorem dbm_grid_each.calls (a0_0 : Int) (P0_1_ : Nat → Prop) (u9000_ : Value) (l0_1 : List Int) (r : List Int) (w0 w : World) (hB : Below w0.heap.size w0 w) (ho0_1 : Kd.R (Kd.int .i64) 3 w w0.heap.size P0_1_ u9000_ l0_1) (h : dbm_grid_each.f a0_0 l0_1 = some r) :
    Calls Try.prog 109 #[.agg #[.int .i64 a0_0, u9000_], .func (.func 110) #[] #[]] w fun e w' => e = .returned (.tuple #[]) ∧ Kd.R (Kd.int .i64) 3 w' w0.heap.size (fun k_ => (P0_1_ k_ ∨ w.heap.size ≤ k_)) u9000_ r ∧ Below w0.heap.size w0 w' ∧ Kept w w' (fun k_ => P0_1_ k_) := by
  unfold dbm_grid_each.f at h
  by_cases hc : 0 ≤ a0_0 ∧ a0_0 ≤ 8 ∧ l0_1.length = (a0_0.toNat + 1) * (a0_0.toNat + 1)
  rotate_left
  · rw [if_neg hc] at h
    cases h

  rw [if_pos hc] at h
  obtain ⟨h1, h2, h3⟩ := hc
  obtain ⟨n, rfl⟩ : ∃ n : Nat, a0_0 = (n : Int) := ⟨a0_0.toNat, by omega⟩
  rw [Int.toNat_natCast] at h h3
  obtain rfl := Option.some.inj h
  obtain ⟨b, cap, rfl, hb, hlt, _⟩ := Kd.R_form ho0_1 (by rw [h3, Nat.succ_mul]; omega)
  have hP : P0_1_ b := ho0_1.1 b rfl
  refine (each_calls 110 #[] (fun args w => enters_ Try.func110 (by kernel_rfl) rfl args w) n (by omega) b cap w0.heap.size _ l0_1 (fun _ => mostF) w h3 ho0_1 (fun W ys i j _ _ _ _ _ => mostAt_calls W i j)).mono ?_
  rintro e w' ⟨he, hR, hK, hW⟩
  exact ⟨he, Kd.R_mono hR (fun k hk => .inl hk), hB.trans (hW.mono hb), Kept.mono hK (fun k hk => by rw [hk]; exact hP)⟩
end Go.Proofs.Ytgeemdpflcefkaa.Z

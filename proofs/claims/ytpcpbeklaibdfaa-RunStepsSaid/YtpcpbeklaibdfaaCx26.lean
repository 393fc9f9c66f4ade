import Derived.Test.YtpcpbeklaibdfaaCx0
namespace Go.Proofs.Ytpcpbeklaibdfaa.C
open Go.RowKit Go.Proofs.YtpcpbeklaibdfaaW.PrintWords Go.Proofs.YtpcpbeklaibdfaaW.PrintLast Go.Proofs.YtpcpbeklaibdfaaW.PrintMore
attribute [local go_sem] max2_int min2_int max_two min_two max_three min_three max_four min_four   -- for this text's walks alone
set_option linter.unusedVariables false
set_option linter.unusedSimpArgs false
/-- The value of a variable, or 0. -/
def valAt (vs : List Int) (i : Int) : Int := if i = 0 then 0 else rd vs (i - 1)
set_option maxHeartbeats 8000000 in
set_option maxRecDepth 100000 in
theorem run_mover_at.walk (k x y c d ch : Int) (vs : List Int) (AV : Option Addr) (cap : Nat) (g : Nat) (i : Int) (hi0 : 0 ≤ i) (hi1 : i ≤ vs.length) (w : World) (hbk : w.heap[g]? = some (.cells #[.int .i64 k, .int .i64 x, .int .i64 y, .int .i64 c, .int .i64 d, .slice AV vs.length cap, .int .i64 ch] 73 (0, 0))) (hC : Kd.C (Kd.int .i64) w AV vs.length vs) :
    Calls Try.prog 85 #[.pointer (some ⟨g, 0, none⟩), .int .i64 i] w fun e w' => e = .returned (.int .i64 (valAt vs i)) ∧ Below w.heap.size w w' := by
  have hm := Kd.C_max hC
  have HB := Aside0.mk (Below.refl w.heap.size w)
  have BM := Aside0.mk hbk
  have HC := Aside0.mk hC
  clear hbk hC
  by_cases h0 : i = 0
  · subst h0
    clear hi0 hi1
    go_enter Try.func85, Try.ntmps85
    go_wp2
    go_ret
    exact ⟨rfl, HB.out⟩
  obtain ⟨p, rfl⟩ : ∃ p : Nat, i = (p : Int) + 1 := ⟨(i - 1).toNat, by omega⟩
  have HV := Aside0.mk (show valAt vs ((p : Int) + 1) = rd vs (p : Int) by rw [valAt, if_neg h0, Int.add_sub_cancel])
  have hp0 : (0 : Int) ≤ (p : Int) := Int.natCast_nonneg _
  have hp1 : (p : Int) < (vs.length : Int) := by omega
  have hw1 : wrap64 ((p : Int) + 1 - 1) = (p : Int) := by unfold wrap64; omega
  have hw2 : wrap64 (p : Int) = (p : Int) := by unfold wrap64; omega
  obtain ⟨ad, rfl, hcell⟩ := Kd.at_int HC.out (p : Int) hp0 hp1
  rw [Int.toNat_natCast] at hcell
  have hg5 : w.cell? ⟨g, 5, none⟩ = some (.slice (some ad) vs.length cap) := (blk_cell BM.out 5).trans rfl
  rw [HV.out]
  clear HV hi0 hi1
  go_enter Try.func85, Try.ntmps85
  go_wp2
  go_ret
  exact ⟨rfl, HB.out⟩
end Go.Proofs.Ytpcpbeklaibdfaa.C

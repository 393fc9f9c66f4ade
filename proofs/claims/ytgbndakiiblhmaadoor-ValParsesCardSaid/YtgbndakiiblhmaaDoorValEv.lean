/- chapter 06: values: what the program's functions tell, in plain words -/
import Derived.Test.YtgbndakiiblhmaaDoorQx6
namespace Go.Proofs.YtgbndakiiblhmaaDoor.ValEv
open Go.RowKit Go.Proofs.YtgbndakiiblhmaaDoor.Q Go.Proofs.YtgbndakiiblhmaaDoorW.PrintWords Go.Proofs.YtgbndakiiblhmaaDoorW.PrintLast
theorem w64 {x : Int} (h : -9223372036854775808 ≤ x) (h' : x ≤ 9223372036854775807) : wrap64 x = x := by unfold wrap64; omega
def clp (a : Int) : Int := min (max a (-1099511627776)) 1099511627776
theorem clp_range (a : Int) : -1099511627776 ≤ clp a ∧ clp a ≤ 1099511627776 := by unfold clp; omega
theorem clip_f (a : Int) : val_Clip.f a = some (clp a) := by
  unfold val_Clip.f clp mn mx
  congr 1
  split <;> split <;> omega
theorem refClip_f (a : Int) : warrantorref06_Clip.f a = some (clp a) := by
  unfold warrantorref06_Clip.f clp
  split
  · congr 1; omega
  · split
    · congr 1; omega
    · congr 1; omega
def isv (a : Int) : Bool := decide (-1099511627776 ≤ a ∧ a ≤ 1099511627776)
theorem is_f (a : Int) : val_Is.f a = some (isv a) := by
  unfold val_Is.f
  rw [clip_f]
  simp only [Option.bind_some, Option.some.injEq]
  apply Bool.eq_iff_iff.2
  unfold isv clp
  rw [beq_iff_eq, decide_eq_true_eq]
  omega
theorem refIs_f (a : Int) : warrantorref06_Is.f a = some (isv a) := by
  unfold warrantorref06_Is.f isv
  split
  · next h => simp [show (-1099511627776 : Int) ≤ a from h]
  · next h => simp [show ¬ (-1099511627776 : Int) ≤ a from h]
theorem sum_small (a b : Int) : wrap64 (clp a + clp b) = clp a + clp b := by
  have := clp_range a
  have := clp_range b
  exact w64 (by omega) (by omega)
theorem neg_small (a : Int) : wrap64 (-clp a) = -clp a := by
  have := clp_range a
  exact w64 (by omega) (by omega)
def add (a b : Int) : Int × Bool := if isv (clp a + clp b) = true then (clp a + clp b, true) else (0, false)
theorem add_f (a b : Int) : val_Add.f a b = some (add a b) := by
  unfold val_Add.f add
  simp only [clip_f, Option.bind_some, sum_small, is_f]
  split <;> rfl
theorem sum_f (a b : Int) : val_Sum.f a b = some (clp (clp a + clp b)) := by
  unfold val_Sum.f
  simp only [clip_f, Option.bind_some, sum_small]
theorem neg_f (a : Int) : val_Neg.f a = some (-clp a) := by
  unfold val_Neg.f
  simp only [clip_f, Option.bind_some, neg_small]
theorem lives_f : warrantorlaw06_lives.f = some true := by decide +kernel
theorem clp_clp (a : Int) : clp (clp a) = clp a := by unfold clp; omega
end Go.Proofs.YtgbndakiiblhmaaDoor.ValEv

/- chapter 06: values: what the program's functions tell, in plain words -/
import Derived.Test.YtkailfmehmgolaaDoorRx13
import Derived.Test.YtkailfmehmgolaaDoorRx15
namespace Go.Proofs.YtkailfmehmgolaaDoor.ValEv
open Go.RowKit Go.Proofs.YtkailfmehmgolaaDoor.R Go.Proofs.YtkailfmehmgolaaDoorW.PrintWords Go.Proofs.YtkailfmehmgolaaDoorW.PrintLast
theorem w64 {x : Int} (h : -9223372036854775808 ≤ x) (h' : x ≤ 9223372036854775807) : wrap64 x = x := by unfold wrap64; omega
def clp (a : Int) : Int := min (max a (-1099511627776)) 1099511627776
theorem clp_range (a : Int) : -1099511627776 ≤ clp a ∧ clp a ≤ 1099511627776 := by unfold clp; omega
theorem clip_f (a : Int) : val_Clip.f a = some (clp a) := by
  unfold val_Clip.f clp mn mx
  congr 1
  split <;> split <;> omega
theorem refClip_f (a : Int) : warrantorref06_Clip.f a = some (clp a) := by
  unfold warrantorref06_Clip.f clp
  split
  · congr 1; omega
  · split
    · congr 1; omega
    · congr 1; omega
def isv (a : Int) : Bool := decide (-1099511627776 ≤ a ∧ a ≤ 1099511627776)
theorem is_f (a : Int) : val_Is.f a = some (isv a) := by
  unfold val_Is.f
  rw [clip_f]
  simp only [Option.bind_some, Option.some.injEq]
  apply Bool.eq_iff_iff.2
  unfold isv clp
  rw [beq_iff_eq, decide_eq_true_eq]
  omega
theorem refIs_f (a : Int) : warrantorref06_Is.f a = some (isv a) := by
  unfold warrantorref06_Is.f isv
  split
  · next h => simp [show (-1099511627776 : Int) ≤ a from h]
  · next h => simp [show ¬ (-1099511627776 : Int) ≤ a from h]
theorem clp_clp (a : Int) : clp (clp a) = clp a := by unfold clp; omega
end Go.Proofs.YtkailfmehmgolaaDoor.ValEv

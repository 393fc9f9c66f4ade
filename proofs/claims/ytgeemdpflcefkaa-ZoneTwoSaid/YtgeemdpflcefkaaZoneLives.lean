/- chapter 09: the run that must come out comes out -/
import Derived.Test.YtgeemdpflcefkaaZx3
import Derived.Test.YtgeemdpflcefkaaZx33
import Derived.Test.YtgeemdpflcefkaaZoneBase
set_option linter.unusedVariables false
set_option linter.unusedSimpArgs false
namespace Go.Proofs.Ytgeemdpflcefkaa.DbmEv
open Go.RowKit Go.Proofs.Ytgeemdpflcefkaa.Z Go.Proofs.YtgeemdpflcefkaaW.PrintWords Go.Proofs.YtgeemdpflcefkaaW.PrintLast Go.Proofs.Ytgeemdpflcefkaa.DbmMath
theorem ev_lives09 : Ev (fun k => warrantorlaw09_lives.f k) true := Ev.ofMono warrantorlaw09_lives.mono (K := 100) (by decide +kernel)
theorem sameSelf (a : Int) {zs : List Int} (h : zs.length ≤ 200) : Ev (fun k => warrantorref08_Same.f k a zs a zs) true := by
  have := ev_refSame a a zs zs (by omega)
  simpa using this
end Go.Proofs.Ytgeemdpflcefkaa.DbmEv

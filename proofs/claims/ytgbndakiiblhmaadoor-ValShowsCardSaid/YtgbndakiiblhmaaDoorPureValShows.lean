/- The text of any number; it is parsed as the value: the walk's pure function answers true for all inputs. -/
import Derived.Test.YtgbndakiiblhmaaDoorValNum
namespace Go.Proofs.YtgbndakiiblhmaaDoor.ValEv
open Go.RowKit Go.Proofs.YtgbndakiiblhmaaDoor.Q Go.Proofs.YtgbndakiiblhmaaDoorW.PrintWords Go.Proofs.YtgbndakiiblhmaaDoorW.PrintLast
theorem pure_ValShows : warrantorlaw06_ValShows.Pure := by
  intro a _
  have ha := clp_range a
  obtain ⟨k0, hk⟩ := refShow_ev (clp a) ha.1 ha.2
  refine ⟨k0, ?_⟩
  unfold warrantorlaw06_ValShows.f
  simp only [show_f, parse_f, parse_show _ ha.1 ha.2, lives_f, refClip_f, Option.bind_some, if_pos, hk k0 (Nat.le_refl _), beq_self_eq_true]
end Go.Proofs.YtgbndakiiblhmaaDoor.ValEv
namespace Go.Proofs.YtgbndakiiblhmaaDoor.Pure
open Go.RowKit Go.Proofs.YtgbndakiiblhmaaDoor.Q Go.Proofs.YtgbndakiiblhmaaDoorW.PrintWords Go.Proofs.YtgbndakiiblhmaaDoorW.PrintLast
theorem ValShows : warrantorlaw06_ValShows.Pure := ValEv.pure_ValShows
end Go.Proofs.YtgbndakiiblhmaaDoor.Pure

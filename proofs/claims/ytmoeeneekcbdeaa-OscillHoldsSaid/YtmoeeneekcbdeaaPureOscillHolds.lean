/- The law OscillHolds: a clock whose rate errs by no more than its drift tells the true time (the numbers are shown in the walk's own text). No condition. -/
import Derived.Test.YtmoeeneekcbdeaaJAx2
namespace Go.Proofs.Ytmoeeneekcbdeaa.Pure
open Go.Proofs.Ytmoeeneekcbdeaa.JA

theorem OscillHolds : ephemeriskeep2_OscillHolds.Pure := fun _ _ _ _ _ _ _ _ _ _ => rfl

end Go.Proofs.Ytmoeeneekcbdeaa.Pure

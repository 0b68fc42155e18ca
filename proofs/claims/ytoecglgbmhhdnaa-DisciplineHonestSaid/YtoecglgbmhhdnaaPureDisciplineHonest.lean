/- The law DisciplineHonest: if no more sources are wrong than is stated, the time is in the interval (the numbers are shown in the walk's own text). No condition. -/
import Derived.Test.YtoecglgbmhhdnaaJDx1
namespace Go.Proofs.Ytoecglgbmhhdnaa.Pure
open Go.Proofs.Ytoecglgbmhhdnaa.JD

theorem DisciplineHonest : ephemeriskeep2_DisciplineHonest.Pure := fun _ _ _ _ _ _ _ _ _ => rfl

end Go.Proofs.Ytoecglgbmhhdnaa.Pure

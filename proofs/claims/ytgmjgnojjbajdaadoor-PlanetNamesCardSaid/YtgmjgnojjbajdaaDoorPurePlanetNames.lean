/- The law PlanetNames: each name is that of a planet (the numbers are shown in PlanetLaw, and in the walk's own text). No condition. -/
import Derived.Test.YtgmjgnojjbajdaaDoorJGx1
namespace Go.Proofs.YtgmjgnojjbajdaaDoor.Pure
open Go.Proofs.YtgmjgnojjbajdaaDoor.JG

theorem PlanetNames : ephemeriskeep2_PlanetNames.Pure := fun _ _ _ _ => rfl

end Go.Proofs.YtgmjgnojjbajdaaDoor.Pure

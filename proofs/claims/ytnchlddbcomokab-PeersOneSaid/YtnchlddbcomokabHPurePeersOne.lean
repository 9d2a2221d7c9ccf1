/- PeersOne: the plain statement. -/
import Derived.Test.YtnchlddbcomokabPgLaws
namespace Go.Proofs.Ytnchlddbcomokab.Pure
open Go.Proofs.Ytnchlddbcomokab.Hh
theorem PeersOne : wharfingerlaw14_PeersOne.Pure := PeersOne_pure
end Go.Proofs.Ytnchlddbcomokab.Pure

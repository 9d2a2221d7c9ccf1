/- PeersForms: the plain statement. -/
import Derived.Test.YtnchlddbcomokabPfLaws
namespace Go.Proofs.Ytnchlddbcomokab.Pure
open Go.Proofs.Ytnchlddbcomokab.Hh
theorem PeersForms : wharfingerlaw14_PeersForms.Pure := PeersForms_pure
end Go.Proofs.Ytnchlddbcomokab.Pure

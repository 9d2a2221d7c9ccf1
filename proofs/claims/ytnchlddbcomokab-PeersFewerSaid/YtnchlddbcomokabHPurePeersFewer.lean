/- PeersFewer: the plain statement. -/
import Derived.Test.YtnchlddbcomokabPgLaws
namespace Go.Proofs.Ytnchlddbcomokab.Pure
open Go.Proofs.Ytnchlddbcomokab.Hh
theorem PeersFewer : wharfingerlaw14_PeersFewer.Pure := PeersFewer_pure
end Go.Proofs.Ytnchlddbcomokab.Pure

/- PeersAgree: the plain statement. -/
import Derived.Test.YtnchlddbcomokabPgLaws
namespace Go.Proofs.Ytnchlddbcomokab.Pure
open Go.Proofs.Ytnchlddbcomokab.Hh
theorem PeersAgree : wharfingerlaw14_PeersAgree.Pure := PeersAgree_pure
end Go.Proofs.Ytnchlddbcomokab.Pure

/- VoteTwice: the plain statement. -/
import Derived.Test.YtnchlddbcomokabVtLaws
namespace Go.Proofs.Ytnchlddbcomokab.Pure
open Go.Proofs.Ytnchlddbcomokab.Hh
theorem VoteTwice : wharfingerlaw12_VoteTwice.Pure := VoteTwice_pure
end Go.Proofs.Ytnchlddbcomokab.Pure

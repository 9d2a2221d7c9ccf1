/- VoteNames: the plain statement. -/
import Derived.Test.YtnchlddbcomokabVtLaws
namespace Go.Proofs.Ytnchlddbcomokab.Pure
open Go.Proofs.Ytnchlddbcomokab.Hh
theorem VoteNames : wharfingerlaw12_VoteNames.Pure := VoteNames_pure
end Go.Proofs.Ytnchlddbcomokab.Pure

/- VoteDecision: the plain statement. -/
import Derived.Test.YtnchlddbcomokabVtLaws
namespace Go.Proofs.Ytnchlddbcomokab.Pure
open Go.Proofs.Ytnchlddbcomokab.Hh
theorem VoteDecision : wharfingerlaw12_VoteDecision.Pure := VoteDecision_pure
end Go.Proofs.Ytnchlddbcomokab.Pure

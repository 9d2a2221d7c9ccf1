/- VoteSays: the plain statement. -/
import Derived.Test.YtnchlddbcomokabVtLaws
namespace Go.Proofs.Ytnchlddbcomokab.Pure
open Go.Proofs.Ytnchlddbcomokab.Hh
theorem VoteSays : wharfingerlaw12_VoteSays.Pure := VoteSays_pure
end Go.Proofs.Ytnchlddbcomokab.Pure

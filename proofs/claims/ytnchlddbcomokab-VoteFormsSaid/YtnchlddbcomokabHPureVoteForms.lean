/- VoteForms: the plain statement. -/
import Derived.Test.YtnchlddbcomokabVfLaws
namespace Go.Proofs.Ytnchlddbcomokab.Pure
open Go.Proofs.Ytnchlddbcomokab.Hh
theorem VoteForms : wharfingerlaw12_VoteForms.Pure := VoteForms_pure
end Go.Proofs.Ytnchlddbcomokab.Pure

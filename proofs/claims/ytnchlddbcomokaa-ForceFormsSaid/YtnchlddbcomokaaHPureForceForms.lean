/- ForceForms: the plain statement. -/
import Derived.Test.YtnchlddbcomokaaFcLaws
namespace Go.Proofs.Ytnchlddbcomokaa.Pure
open Go.Proofs.Ytnchlddbcomokaa.Hh
theorem ForceForms : wharfingerlaw15_ForceForms.Pure := ForceForms_pure
end Go.Proofs.Ytnchlddbcomokaa.Pure

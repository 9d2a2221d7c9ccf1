/- ForceWhich: the plain statement. -/
import Derived.Test.YtnchlddbcomokabFcLaws
namespace Go.Proofs.Ytnchlddbcomokab.Pure
open Go.Proofs.Ytnchlddbcomokab.Hh
theorem ForceWhich : wharfingerlaw15_ForceWhich.Pure := ForceWhich_pure
end Go.Proofs.Ytnchlddbcomokab.Pure

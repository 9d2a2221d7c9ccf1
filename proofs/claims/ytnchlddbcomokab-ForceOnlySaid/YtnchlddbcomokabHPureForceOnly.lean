/- ForceOnly: the plain statement. -/
import Derived.Test.YtnchlddbcomokabFcLaws
namespace Go.Proofs.Ytnchlddbcomokab.Pure
open Go.Proofs.Ytnchlddbcomokab.Hh
theorem ForceOnly : wharfingerlaw15_ForceOnly.Pure := ForceOnly_pure
end Go.Proofs.Ytnchlddbcomokab.Pure

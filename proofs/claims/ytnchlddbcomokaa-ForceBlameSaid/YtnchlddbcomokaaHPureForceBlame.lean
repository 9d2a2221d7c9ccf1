/- ForceBlame: the plain statement. -/
import Derived.Test.YtnchlddbcomokaaFcLaws
namespace Go.Proofs.Ytnchlddbcomokaa.Pure
open Go.Proofs.Ytnchlddbcomokaa.Hh
theorem ForceBlame : wharfingerlaw15_ForceBlame.Pure := ForceBlame_pure
end Go.Proofs.Ytnchlddbcomokaa.Pure

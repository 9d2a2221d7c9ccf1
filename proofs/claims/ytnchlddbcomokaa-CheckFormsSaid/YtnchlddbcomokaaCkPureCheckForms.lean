/- The plain statement of CheckForms: both answer the same sum of letters. -/
import Derived.Test.YtnchlddbcomokaaCkLawCheckForms
import Derived.Test.YtnchlddbcomokaaCkSum
namespace Go.Proofs.Ytnchlddbcomokaa.PCk
open Go.RowKit Go.Proofs.YtnchlddbcomokaaW.PrintWords Go.Proofs.Ytnchlddbcomokaa.Ck
theorem CheckForms_pure : wharfingerlaw2_CheckForms.Pure := by
  intro s hs
  refine ⟨s.size + 3, ?_⟩
  unfold wharfingerlaw2_CheckForms.f
  rw [awakeIs _ (by omega)]
  by_cases h : (s.size : Int) > 2000
  · rw [if_pos h]; rfl
  · rw [if_neg h, readIs s (by omega) _ (by omega), Option.bind_some, readRefIs s (by omega) _ (by omega), Option.bind_some, lettersIs s (by omega) _ (by omega), Option.bind_some, lettersRefIs s (by omega) _ (by omega), Option.bind_some,
      if_pos rfl, signIs s (by omega) _ (by omega), Option.bind_some, signRefIs s (by omega) _ (by omega), Option.bind_some, if_pos rfl, if_pos rfl, if_pos (by simp)]
    rfl
end Go.Proofs.Ytnchlddbcomokaa.PCk

/- The plain statement of VoteForms. -/
import Derived.Test.YtnchlddbcomokabLg
import Derived.Test.YtnchlddbcomokabHx11
namespace Go.Proofs.Ytnchlddbcomokab.Hh
open Go.RowKit Go.Proofs.YtnchlddbcomokabW.PrintWords Go.Proofs.YtnchlddbcomokabW.PrintLast
set_option linter.unusedSimpArgs false

theorem refMay4_is (s : Int) : wharfingerref12_May.f s = some (mayS s) := may_is s
theorem refDecided_is (s : Int) : wharfingerref12_Decided.f s = some (dc s) := by
  unfold wharfingerref12_Decided.f
  rw [refFinal_is]
  unfold dc
  by_cases h2 : s = 2
  · subst h2; rfl
  · by_cases h4 : s = 4
    · subst h4; rfl
    · by_cases h3 : s = 3
      · subst h3; rfl
      · by_cases h5 : s = 5
        · subst h5; rfl
        · simp [h2, h4, h3, h5]
theorem refNext_is (k : Nat) (s kind : Int) (can : Bool) : wharfingerref12_Next.f (k + 4) s kind can = some (nx s kind can) := by
  unfold wharfingerref12_Next.f
  rw [refMay4_is, Option.bind_some]
  by_cases hm : mayS s = true
  · rw [if_pos hm]
    by_cases h6 : kind = 6
    · subst h6
      rw [if_pos rfl]
      obtain rfl | rfl | rfl | rfl | rfl | rfl := six s hm <;> cases can <;> rfl
    · rw [if_neg h6]
      by_cases h9 : kind = 9
      · subst h9
        rw [if_pos rfl, wharfingerref12_Next.j1, if_pos (by simp)]
        obtain rfl | rfl | rfl | rfl | rfl | rfl := six s hm <;> rfl
      · rw [if_neg h9]
        by_cases h13 : kind = 13
        · subst h13
          rw [wharfingerref12_Next.j1, if_pos (by simp)]
          obtain rfl | rfl | rfl | rfl | rfl | rfl := six s hm <;> rfl
        · rw [wharfingerref12_Next.j1, if_neg (by simpa using h13)]
          by_cases h10 : kind = 10
          · subst h10
            rw [if_pos rfl, wharfingerref12_Next.j3, if_pos (by simp)]
            obtain rfl | rfl | rfl | rfl | rfl | rfl := six s hm <;> rfl
          · rw [if_neg h10]
            by_cases h14 : kind = 14
            · subst h14
              rw [wharfingerref12_Next.j3, if_pos (by simp)]
              obtain rfl | rfl | rfl | rfl | rfl | rfl := six s hm <;> rfl
            · rw [wharfingerref12_Next.j3, if_neg (by simpa using h14)]
              by_cases h12 : kind = 12
              · subst h12
                rw [if_pos rfl]
                obtain rfl | rfl | rfl | rfl | rfl | rfl := six s hm <;> rfl
              · rw [if_neg h12, nx_else s kind can h6 h9 h13 h10 h14 h12]
  · rw [if_neg hm]; unfold nx; rw [if_neg hm]
theorem VoteForms_pure : wharfingerlaw12_VoteForms.Pure := by
  intro s kind can l _ _ _ _ _
  refine ⟨l.length + 4 + 4, ?_⟩
  unfold wharfingerlaw12_VoteForms.f
  by_cases h : (l.length : Int) > 200
  · rw [if_pos h, show l.length + 4 + 4 = (l.length + 5) + 3 from rfl, voteAwake]; rfl
  · have hn : (vote_Name.f s) = (wharfingerref12_Name.f s) := rfl
    have ha : wharfingerlaw12_awake.f (l.length + 4 + 4) = some true := voteAwake (l.length + 5)
    have hx : vote_Next.f (l.length + 4 + 4) s kind can = some (nx s kind can) := next_is (l.length + 5) s kind can
    have hd : vote_Decided.f (l.length + 4 + 4) s = some (dc s) := decided_is (l.length + 7) s
    have hf : vote_Final.f (l.length + 4 + 4) s = some (dc s).2 := final_is (l.length + 7) s
    rw [if_neg h, ha, hx, Option.bind_some, refNext_is, Option.bind_some, hd, Option.bind_some, refDecided_is, Option.bind_some, if_pos rfl, if_pos rfl, if_pos (by simp), if_pos (by simp), may_is, Option.bind_some, refMay4_is, Option.bind_some, if_pos (by simp), hf, Option.bind_some, refFinal_is, Option.bind_some, if_pos (by simp), hn]
    have hnm : ∃ n, wharfingerref12_Name.f s = some n := ⟨_, rfl⟩
    obtain ⟨n, hnm⟩ := hnm
    rw [hnm, Option.bind_some, Option.bind_some, if_pos rfl, legal_is l (by omega) _ (by omega), Option.bind_some, refLegal_is l (by omega) _ (by omega), Option.bind_some, if_pos rfl]
    rfl
end Go.Proofs.Ytnchlddbcomokab.Hh

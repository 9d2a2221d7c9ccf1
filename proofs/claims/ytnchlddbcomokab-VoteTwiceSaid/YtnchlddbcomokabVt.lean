/- What the functions on states answer, as plain functions on numbers: the next state, what is decided. -/
import Derived.Test.YtnchlddbcomokabFc
import Derived.Test.YtnchlddbcomokabHx2
import Derived.Test.YtnchlddbcomokabHx3
namespace Go.Proofs.Ytnchlddbcomokab.Hh
open Go.RowKit Go.Proofs.YtnchlddbcomokabW.PrintWords Go.Proofs.YtnchlddbcomokabW.PrintLast

theorem final_is (k : Nat) (s : Int) : vote_Final.f (k + 1) s = some (dc s).2 := by
  unfold vote_Final.f; rw [decided_is]; rfl

/-- The state behind a message, and the answer. -/
def nx (s kind : Int) (can : Bool) : Int × Int :=
  if mayS s = true then
    if kind = 6 then (if s = 0 then (if can = true then (1, 7) else (3, 8)) else if s = 1 ∨ s = 4 then (s, 7) else if s = 3 ∨ s = 5 then (s, 8) else (s, 0))
    else if kind = 9 ∨ kind = 13 then (if s = 1 ∨ s = 2 then (2, 11) else if s = 4 then (s, 11) else if s = 5 then (s, 17) else (s, 0))
    else if kind = 10 ∨ kind = 14 then (if s = 0 ∨ s = 1 ∨ s = 3 then (3, 11) else if s = 5 then (s, 11) else if s = 4 then (s, 17) else (s, 0))
    else if kind = 12 then (if s = 0 ∨ s = 3 then (3, 14) else if s = 2 then (s, 13) else (s, 0))
    else (s, 0)
  else (s, 0)

theorem six (s : Int) (h : mayS s = true) : s = 0 ∨ s = 1 ∨ s = 2 ∨ s = 3 ∨ s = 4 ∨ s = 5 := by
  unfold mayS at h
  have := of_decide_eq_true h
  omega
theorem asked_is (k : Nat) (s : Int) (can : Bool) (h : mayS s = true) : vote_asked.f (k + 1) s can = some (nx s 6 can) := by
  obtain rfl | rfl | rfl | rfl | rfl | rfl := six s h <;> cases can <;> rfl
theorem commits_is (k : Nat) (s : Int) (can : Bool) (h : mayS s = true) : vote_commits.f (k + 1) s = some (nx s 9 can) := by
  obtain rfl | rfl | rfl | rfl | rfl | rfl := six s h <;> rfl
theorem aborts_is (k : Nat) (s : Int) (can : Bool) (h : mayS s = true) : vote_aborts.f (k + 1) s = some (nx s 10 can) := by
  obtain rfl | rfl | rfl | rfl | rfl | rfl := six s h <;> rfl
theorem tells_is (k : Nat) (s : Int) (can : Bool) (h : mayS s = true) : vote_tells.f (k + 1) s = some (nx s 12 can) := by
  obtain rfl | rfl | rfl | rfl | rfl | rfl := six s h <;> rfl
theorem nx_13 (s : Int) (can : Bool) : nx s 13 can = nx s 9 can := by simp [nx]
theorem nx_14 (s : Int) (can : Bool) : nx s 14 can = nx s 10 can := by simp [nx]
theorem nx_else (s kind : Int) (can : Bool) (h6 : kind ≠ 6) (h9 : kind ≠ 9) (h13 : kind ≠ 13) (h10 : kind ≠ 10) (h14 : kind ≠ 14) (h12 : kind ≠ 12) : nx s kind can = (s, 0) := by
  simp [nx, h6, h9, h13, h10, h14, h12]
theorem next_is (k : Nat) (s kind : Int) (can : Bool) : vote_Next.f (k + 3) s kind can = some (nx s kind can) := by
  unfold vote_Next.f
  rw [may_is, Option.bind_some]
  by_cases hm : mayS s = true
  · rw [if_pos hm]
    by_cases h6 : kind = 6
    · subst h6
      rw [if_pos rfl, asked_is _ s can hm]; rfl
    · rw [if_neg h6]
      by_cases h9 : kind = 9
      · subst h9
        rw [if_pos rfl, vote_Next.j0, if_pos (by simp), commits_is _ s can hm]; rfl
      · rw [if_neg h9]
        by_cases h13 : kind = 13
        · subst h13
          rw [vote_Next.j0, if_pos (by simp), commits_is _ s can hm, nx_13]; rfl
        · rw [vote_Next.j0, if_neg (by simpa using h13)]
          by_cases h10 : kind = 10
          · subst h10
            rw [if_pos rfl, vote_Next.j1, if_pos (by simp), aborts_is _ s can hm]; rfl
          · rw [if_neg h10]
            by_cases h14 : kind = 14
            · subst h14
              rw [vote_Next.j1, if_pos (by simp), aborts_is _ s can hm, nx_14]; rfl
            · rw [vote_Next.j1, if_neg (by simpa using h14)]
              by_cases h12 : kind = 12
              · subst h12
                rw [if_pos rfl, tells_is _ s can hm]; rfl
              · rw [if_neg h12, nx_else s kind can h6 h9 h13 h10 h14 h12]
  · rw [if_neg hm]; unfold nx; rw [if_neg hm]

theorem nx_may (s kind : Int) (can : Bool) (h : mayS s = true) : mayS (nx s kind can).1 = true := by
  by_cases h6 : kind = 6
  · subst h6; obtain rfl | rfl | rfl | rfl | rfl | rfl := six s h <;> cases can <;> rfl
  by_cases h9 : kind = 9
  · subst h9; obtain rfl | rfl | rfl | rfl | rfl | rfl := six s h <;> rfl
  by_cases h13 : kind = 13
  · subst h13; obtain rfl | rfl | rfl | rfl | rfl | rfl := six s h <;> rfl
  by_cases h10 : kind = 10
  · subst h10; obtain rfl | rfl | rfl | rfl | rfl | rfl := six s h <;> rfl
  by_cases h14 : kind = 14
  · subst h14; obtain rfl | rfl | rfl | rfl | rfl | rfl := six s h <;> rfl
  by_cases h12 : kind = 12
  · subst h12; obtain rfl | rfl | rfl | rfl | rfl | rfl := six s h <;> rfl
  rw [nx_else s kind can h6 h9 h13 h10 h14 h12]; exact h
/-- What holds of the next state at each of the states, messages: six kinds that do something, else the same state. -/
theorem nx_all (P : Int → Int → Bool → Int × Int → Prop) (s kind : Int) (can : Bool) (hin : ∀ s ∈ [(0 : Int), 1, 2, 3, 4, 5], ∀ kd ∈ [(6 : Int), 9, 13, 10, 14, 12], ∀ c, P s kd c (nx s kd c)) (hno : ∀ s kd c, P s kd c (s, 0)) : P s kind can (nx s kind can) := by
  by_cases hm : mayS s = true
  · have hs : s ∈ [(0 : Int), 1, 2, 3, 4, 5] := by obtain rfl | rfl | rfl | rfl | rfl | rfl := six s hm <;> simp
    by_cases hk : kind ∈ [(6 : Int), 9, 13, 10, 14, 12]
    · exact hin s hs kind hk can
    · simp at hk
      rw [nx_else s kind can hk.1 hk.2.1 hk.2.2.1 hk.2.2.2.1 hk.2.2.2.2.1 hk.2.2.2.2.2]
      exact hno s kind can
  · have e : nx s kind can = (s, 0) := by unfold nx; rw [if_neg hm]
    rw [e]; exact hno s kind can

theorem toList_data (s : ByteArray) : s.toList = s.data.toList := by
  obtain ⟨⟨l⟩⟩ := s
  exact ByteArray.toList_mk l
theorem voteAwake (k : Nat) : wharfingerlaw12_awake.f (k + 3) = some true := by
  unfold wharfingerlaw12_awake.f
  rw [next_is, Option.bind_some]
  have e : nx 0 12 true = (3, 14) := rfl
  rw [e]
  rw [if_pos rfl, if_pos rfl, final_is]
  simp [dc, vote_Name.f, toList_data]
end Go.Proofs.Ytnchlddbcomokab.Hh

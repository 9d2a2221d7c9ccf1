/- The plain statements of VoteSays, VoteTwice, VoteDecision, VoteNames. -/
import Derived.Test.YtnchlddbcomokabVt
import Derived.Test.YtnchlddbcomokabHx4
import Derived.Test.YtnchlddbcomokabHx5
namespace Go.Proofs.Ytnchlddbcomokab.Hh
open Go.RowKit Go.Proofs.YtnchlddbcomokabW.PrintWords Go.Proofs.YtnchlddbcomokabW.PrintLast

theorem says_is (p : Int × Int) (k : Nat) (h : p = (p.1, 0) ∨ p ∈ [((1 : Int), (7 : Int)), (4, 7), (3, 8), (5, 8), (2, 11), (4, 11), (5, 17), (3, 11), (5, 11), (4, 17), (3, 14), (2, 13)]) :
    ((vote_Decided.f (k + 4) p.1).bind fun bt160 => (if p.2 = 7 then (if p.1 = 1 then ((wharfingerlaw12_awake.f (k + 4)).bind fun t162 => (some t162)) else (if p.1 = 4 then ((wharfingerlaw12_awake.f (k + 4)).bind fun t163 => (some t163)) else (some false))) else (if p.2 = 8 then (wharfingerlaw12_VoteSays.j0 (k + 4) p.1 p.2 bt160.1 bt160.2 p.2 (p.2 == 8)) else (wharfingerlaw12_VoteSays.j0 (k + 4) p.1 p.2 bt160.1 bt160.2 p.2 (p.2 == 14))))) = some true := by
  rw [decided_is, Option.bind_some, voteAwake (k + 1)]
  rcases h with h | h
  · rw [h]
    simp [wharfingerlaw12_VoteSays.j0, voteAwake k]
  · simp only [List.mem_cons, List.not_mem_nil, or_false] at h
    rcases h with rfl | rfl | rfl | rfl | rfl | rfl | rfl | rfl | rfl | rfl | rfl | rfl <;> simp [wharfingerlaw12_VoteSays.j0, voteAwake k, dc]
theorem VoteSays_pure : wharfingerlaw12_VoteSays.Pure := by
  intro s kind can _ _
  refine ⟨4, ?_⟩
  unfold wharfingerlaw12_VoteSays.f
  rw [show (4 : Nat) = 1 + 3 from rfl, next_is, Option.bind_some]
  refine says_is _ 0 (nx_all (fun _ _ _ p => p = (p.1, 0) ∨ p ∈ [((1 : Int), (7 : Int)), (4, 7), (3, 8), (5, 8), (2, 11), (4, 11), (5, 17), (3, 11), (5, 11), (4, 17), (3, 14), (2, 13)]) s kind can ?_ (fun _ _ _ => .inl rfl))
  decide

theorem nx_twice (s kind : Int) (can can' : Bool) : nx (nx s kind can).1 kind can' = nx s kind can ∨ (mayS s = true → False) ∧ (nx (nx s kind can).1 kind can').1 = (nx s kind can).1 := by
  by_cases hm : mayS s = true
  · left
    have h := nx_all (fun s kd c p => mayS s = true → ∀ c', nx p.1 kd c' = p ∨ p = (s, 0)) s kind can (by decide) (fun _ _ _ _ _ => .inr rfl) hm can'
    rcases h with h | h
    · exact h
    · by_cases hk : kind ∈ [(6 : Int), 9, 13, 10, 14, 12]
      · simp at hk
        obtain rfl | rfl | rfl | rfl | rfl | rfl := six s hm <;> obtain rfl | rfl | rfl | rfl | rfl | rfl := hk <;> cases can <;> cases can' <;> first | rfl | (exact absurd h (by decide))
      · simp at hk
        rw [h, nx_else s kind can' hk.1 hk.2.1 hk.2.2.1 hk.2.2.2.1 hk.2.2.2.2.1 hk.2.2.2.2.2]
  · left
    have e : ∀ c, nx s kind c = (s, 0) := fun c => by unfold nx; rw [if_neg hm]
    rw [e, e]
theorem VoteTwice_pure : wharfingerlaw12_VoteTwice.Pure := by
  intro s kind can can' _ _
  refine ⟨3, ?_⟩
  unfold wharfingerlaw12_VoteTwice.f
  rw [show (3 : Nat) = 0 + 3 from rfl, next_is, Option.bind_some, next_is, Option.bind_some, voteAwake]
  rcases nx_twice s kind can can' with h | ⟨h, h1⟩
  · rw [h, if_pos rfl, if_pos rfl]; rfl
  · rw [if_pos h1.symm]
    split
    · rfl
    · rw [may_is, Option.bind_some, if_neg h]; rfl
theorem VoteDecision_pure : wharfingerlaw12_VoteDecision.Pure := by
  intro a b
  refine ⟨5, ?_⟩
  unfold wharfingerlaw12_VoteDecision.f
  cases a <;> cases b <;> simp [wharfingerlaw12_VoteDecision.j0, wharfingerlaw12_VoteDecision.j1, next_is 0, voteAwake 0, decided_is 2, wrap64, nx, mayS, dc]
theorem refMay_is (s : Int) : wharfingerref12_May.f s = some (mayS s) := may_is s
def nm (s : Int) : ByteArray := if s = 0 then (⟨#[110, 111, 110, 101]⟩ : ByteArray) else if s = 1 then (⟨#[114, 101, 97, 100, 121]⟩ : ByteArray) else if s = 2 then (⟨#[121, 101, 115]⟩ : ByteArray) else if s = 3 then (⟨#[110, 111]⟩ : ByteArray) else if s = 4 then (⟨#[102, 111, 114, 99, 101, 100, 32, 121, 101, 115]⟩ : ByteArray) else if s = 5 then (⟨#[102, 111, 114, 99, 101, 100, 32, 110, 111]⟩ : ByteArray) else (⟨#[]⟩ : ByteArray)
theorem name_is (s : Int) : vote_Name.f s = some (nm s) := rfl
theorem nm_may (s : Int) : ((nm s).toList != ([] : List UInt8)) = mayS s := by
  by_cases hm : mayS s = true
  · rw [hm]
    obtain rfl | rfl | rfl | rfl | rfl | rfl := six s hm <;> rw [toList_data] <;> rfl
  · have e : nm s = ⟨#[]⟩ := by
      unfold mayS at hm
      simp at hm
      unfold nm
      rw [if_neg (by omega), if_neg (by omega), if_neg (by omega), if_neg (by omega), if_neg (by omega), if_neg (by omega)]
    rw [e, toList_data]; simp at hm; rw [hm]; rfl
theorem nm_inj (s t : Int) (hs : mayS s = true) (ht : mayS t = true) : (((nm s).toList == (nm t).toList) == (s == t)) = true := by
  rw [toList_data, toList_data]
  obtain rfl | rfl | rfl | rfl | rfl | rfl := six s hs <;> obtain rfl | rfl | rfl | rfl | rfl | rfl := six t ht <;> rfl
theorem dc_may (s : Int) (h : (dc s).2 = true) : mayS s = true := by
  unfold dc at h
  unfold mayS
  by_cases h1 : s = 2 ∨ s = 4
  · simp; omega
  · rw [if_neg h1] at h
    by_cases h2 : s = 3 ∨ s = 5
    · simp; omega
    · rw [if_neg h2] at h; cases h
theorem VoteNames_pure : wharfingerlaw12_VoteNames.Pure := by
  intro s t _ _
  refine ⟨4, ?_⟩
  unfold wharfingerlaw12_VoteNames.f
  have hj : wharfingerlaw12_VoteNames.j0 4 s t (nm s) (nm t) false = some true := by
    rw [show (4 : Nat) = 3 + 1 from rfl, wharfingerlaw12_VoteNames.j0, if_neg (by simp), may_is, Option.bind_some, refMay_is, Option.bind_some, Option.bind_some, voteAwake 0, may_is, Option.bind_some]
    by_cases hs : mayS s = true
    · rw [if_pos hs]
      by_cases ht : mayS t = true
      · rw [if_pos ht, if_pos (nm_inj s t hs ht), if_pos (by simp)]; rfl
      · rw [if_neg ht, if_pos (by simp)]; rfl
    · rw [if_neg hs, if_pos (by simp)]; rfl
  rw [name_is, Option.bind_some, name_is, Option.bind_some, show (4 : Nat) = 3 + 1 from rfl, decided_is, Option.bind_some, may_is, Option.bind_some, nm_may, if_neg (by simp), final_is, Option.bind_some, if_neg (by simp)]
  by_cases h : (dc s).2 = true
  · rw [if_pos h, Option.bind_some, dc_may s h]; exact hj
  · rw [if_neg h]; exact hj
end Go.Proofs.Ytnchlddbcomokab.Hh

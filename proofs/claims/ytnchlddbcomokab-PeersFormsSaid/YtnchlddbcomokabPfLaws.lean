/- The plain statement of PeersForms. -/
import Derived.Test.YtnchlddbcomokabSf
import Derived.Test.YtnchlddbcomokabHx6
namespace Go.Proofs.Ytnchlddbcomokab.Hh
open Go.RowKit Go.Proofs.YtnchlddbcomokabW.PrintWords Go.Proofs.YtnchlddbcomokabW.PrintLast
set_option linter.unusedSimpArgs false

theorem refSafe_loop (xs : List Int) (hx : xs.length ≤ 1000) (d : Nat) : ∀ (k i : Nat) (y n : Bool), i ≤ xs.length → xs.length - i = d → d < k →
      wharfingerref12_Safe.l0 k y n xs (xs.length : Int) (i : Int) = some ((xs.drop i).all mayS && (!(y || (xs.drop i).any isC) || !(n || (xs.drop i).any isA))) := by
  induction d with
  | zero =>
    intro k i y n hi hd hk
    obtain ⟨k, rfl⟩ : ∃ m, k = m + 1 := ⟨k - 1, by omega⟩
    rw [wharfingerref12_Safe.l0, if_neg (by omega), List.drop_eq_nil_of_le (by omega)]
    cases y <;> cases n <;> rfl
  | succ d ih =>
    intro k i y n hi hd hk
    obtain ⟨k, rfl⟩ : ∃ m, k = m + 1 := ⟨k - 1, by omega⟩
    have hlt : i < xs.length := by omega
    rw [wharfingerref12_Safe.l0, if_pos (by omega), if_pos (by omega), if_pos (by omega), pMay_is, Option.bind_some, refTells_is, wrap_succ i xs.length hlt (by omega), drop_at xs i hlt, List.any_cons, List.any_cons, List.all_cons]
    have IH := fun y n => ih k (i + 1) y n (by omega) (by omega) (by omega)
    generalize rd xs (i : Int) = s
    generalize (xs.drop (i + 1)).any isC = A at IH ⊢
    generalize (xs.drop (i + 1)).any isA = B at IH ⊢
    generalize (xs.drop (i + 1)).all mayS = C at IH ⊢
    generalize ((i + 1 : Nat) : Int) = j at IH ⊢
    by_cases hm : mayS s = true
    · rw [if_pos hm, hm]
      by_cases h2 : s = 2
      · subst h2; cases y <;> cases n <;> simp [IH, isC, isA]
      · by_cases h3 : s = 3
        · subst h3; cases y <;> cases n <;> simp [IH, isC, isA]
        · by_cases h0 : s = 0
          · subst h0; cases y <;> cases n <;> simp [IH, isC, isA]
          · cases y <;> cases n <;> simp [IH, isC, isA, h2, h3, h0]
    · rw [if_neg hm]
      have hm' : mayS s = false := by simpa using hm
      rw [hm']; simp
theorem refSafe_is (xs : List Int) (hx : xs.length ≤ 1000) (k : Nat) (hk : xs.length < k) : wharfingerref12_Safe.f k xs = some (safe xs) := by
  unfold wharfingerref12_Safe.f safe
  have h := refSafe_loop xs hx xs.length k 0 false false (by omega) (by omega) hk
  simpa using h


theorem refDecide_loop (xs : List Int) (hx : xs.length ≤ 1000) (d : Nat) : ∀ (k i : Nat), i ≤ xs.length → xs.length - i = d → d < k →
      wharfingerref12_Decide.l0 k xs (xs.length : Int) (i : Int) = some (fst0 (xs.drop i)) := by
  induction d with
  | zero =>
    intro k i hi hd hk
    obtain ⟨k, rfl⟩ : ∃ m, k = m + 1 := ⟨k - 1, by omega⟩
    rw [wharfingerref12_Decide.l0, if_neg (by omega), List.drop_eq_nil_of_le (by omega)]; rfl
  | succ d ih =>
    intro k i hi hd hk
    obtain ⟨k, rfl⟩ : ∃ m, k = m + 1 := ⟨k - 1, by omega⟩
    have hlt : i < xs.length := by omega
    rw [wharfingerref12_Decide.l0, if_pos (by omega), if_pos (by omega), if_pos (by omega), refTells_is, Option.bind_some, wrap_succ i xs.length hlt (by omega), drop_at xs i hlt, fst0, ih k (i + 1) (by omega) (by omega) (by omega)]
    show (if tl (rd xs i) > 0 then some (tl (rd xs i)) else _) = _
    split <;> rfl
theorem refDecide_is (xs : List Int) (hx : xs.length ≤ 1000) (k : Nat) (hk : xs.length < k) : wharfingerref12_Decide.f k xs = some (fst0 xs) := by
  unfold wharfingerref12_Decide.f
  exact refDecide_loop xs hx xs.length k 0 (by omega) (by omega) hk
theorem refTells_tl (s : Int) : wharfingerref12_Tells.f s = some (tl s) := refTells_is s
theorem PeersForms_pure : wharfingerlaw14_PeersForms.Pure := by
  intro s l _ _ _ _
  refine ⟨l.length + 1 + 3, ?_⟩
  unfold wharfingerlaw14_PeersForms.f
  rw [peersAwake]
  by_cases h : (l.length : Int) > 200
  · rw [if_pos h]; rfl
  · rw [if_neg h, peerTells_is, Option.bind_some, refTells_tl, Option.bind_some, if_pos rfl, decide_is, Option.bind_some, refDecide_is l (by omega) _ (by omega), Option.bind_some, if_pos rfl, psafe_is l (by omega) _ (by omega), Option.bind_some, refSafe_is l (by omega) _ (by omega), Option.bind_some, if_pos (by simp)]
    rfl
end Go.Proofs.Ytnchlddbcomokab.Hh

/- What the peers' functions answer, as plain functions on lists of numbers. -/
import Derived.Test.YtnchlddbcomokabVt
import Derived.Test.YtnchlddbcomokabHx4
import Derived.Test.YtnchlddbcomokabHx5
namespace Go.Proofs.Ytnchlddbcomokab.Hh
open Go.RowKit Go.Proofs.YtnchlddbcomokabW.PrintWords Go.Proofs.YtnchlddbcomokabW.PrintLast
set_option linter.unusedSimpArgs false

theorem pMay_is (s : Int) : wharfingerref12_May.f s = some (mayS s) := may_is s
def isC (s : Int) : Bool := decide (s = 2)
def isA (s : Int) : Bool := decide (s = 3) || decide (s = 0)
def safe (l : List Int) : Bool := l.all mayS && (!(l.any isC) || !(l.any isA))
theorem refTells_is (s : Int) : wharfingerref12_Tells.f s = some (if s = 2 then 13 else if s = 3 ∨ s = 0 then 14 else 0) := by
  unfold wharfingerref12_Tells.f
  by_cases h2 : s = 2
  · rw [if_pos h2, if_pos h2]
  · rw [if_neg h2, if_neg h2]
    by_cases h3 : s = 3
    · rw [if_pos h3, if_pos (.inl h3)]
    · rw [if_neg h3]
      by_cases h0 : s = 0
      · rw [if_pos h0, if_pos (.inr h0)]
      · rw [if_neg h0, if_neg (by omega)]

def tl (s : Int) : Int := if s = 2 then 13 else if s = 3 ∨ s = 0 then 14 else 0
theorem tells_nx (s : Int) : (nx s 12 false).2 = tl s := by
  unfold nx tl
  by_cases hm : mayS s = true
  · rw [if_pos hm]; obtain rfl | rfl | rfl | rfl | rfl | rfl := six s hm <;> rfl
  · rw [if_neg hm]
    unfold mayS at hm
    simp at hm
    rw [if_neg (by omega), if_neg (by omega)]
theorem peerTells_is (k : Nat) (s : Int) : peers_Tells.f (k + 3) s = some (tl s) := by
  unfold peers_Tells.f; rw [next_is, Option.bind_some, tells_nx]
/-- The first that any tells. -/
def fst0 : List Int → Int
  | [] => 0
  | s :: l => if tl s > 0 then tl s else fst0 l
theorem tl_cases (s : Int) : tl s = 13 ∨ tl s = 14 ∨ tl s = 0 := by
  unfold tl; split
  · simp
  · split <;> simp
theorem decide_loop (k : Nat) : ∀ (l : List Int) (x : Int), (l = [] → x = 0) → peers_Decide.l0 (k + 3) l x = some (fst0 l) ∨ l = [] := by
  intro l
  induction l with
  | nil => intro x hx; exact .inr rfl
  | cons s l ih =>
    intro x _
    left
    rw [peers_Decide.l0, peerTells_is, Option.bind_some, fst0]
    by_cases h : tl s > 0
    · rw [if_pos h, if_pos h]
    · rw [if_neg h, if_neg h]
      have h0 : tl s = 0 := by rcases tl_cases s with h' | h' | h' <;> omega
      rw [h0]
      rcases ih 0 (fun _ => rfl) with h1 | h1
      · exact h1
      · subst h1; rfl
theorem decide_is (k : Nat) (l : List Int) : peers_Decide.f (k + 3) l = some (fst0 l) := by
  unfold peers_Decide.f
  rcases decide_loop k l 0 (fun _ => rfl) with h | h
  · exact h
  · subst h; rfl
theorem psafe_loop (xs : List Int) (hx : xs.length ≤ 1000) (d : Nat) : ∀ (k i : Nat) (y n : Bool), i ≤ xs.length → xs.length - i = d → d < k →
      peers_Safe.l0 k y n xs (xs.length : Int) (i : Int) = some ((xs.drop i).all mayS && (!(y || (xs.drop i).any isC) || !(n || (xs.drop i).any isA))) := by
  induction d with
  | zero =>
    intro k i y n hi hd hk
    obtain ⟨k, rfl⟩ : ∃ m, k = m + 1 := ⟨k - 1, by omega⟩
    rw [peers_Safe.l0, if_neg (by omega), List.drop_eq_nil_of_le (by omega)]
    cases y <;> cases n <;> rfl
  | succ d ih =>
    intro k i y n hi hd hk
    obtain ⟨k, rfl⟩ : ∃ m, k = m + 1 := ⟨k - 1, by omega⟩
    have hlt : i < xs.length := by omega
    rw [peers_Safe.l0, if_pos (by omega), if_pos (by omega), if_pos (by omega), may_is, Option.bind_some, wrap_succ i xs.length hlt (by omega), drop_at xs i hlt, List.any_cons, List.any_cons, List.all_cons]
    have IH := fun y n => ih k (i + 1) y n (by omega) (by omega) (by omega)
    generalize rd xs (i : Int) = s
    generalize (xs.drop (i + 1)).any isC = A at IH ⊢
    generalize (xs.drop (i + 1)).any isA = B at IH ⊢
    generalize (xs.drop (i + 1)).all mayS = C at IH ⊢
    generalize ((i + 1 : Nat) : Int) = j at IH ⊢
    by_cases hm : mayS s = true
    · rw [if_pos hm, hm]
      by_cases h2 : s = 2
      · subst h2; cases y <;> cases n <;> simp [IH, isC, isA]
      · by_cases h3 : s = 3
        · subst h3; cases y <;> cases n <;> simp [IH, isC, isA]
        · by_cases h0 : s = 0
          · subst h0; cases y <;> cases n <;> simp [IH, isC, isA]
          · cases y <;> cases n <;> simp [IH, isC, isA, h2, h3, h0]
    · rw [if_neg hm]
      have hm' : mayS s = false := by simpa using hm
      rw [hm']; simp
theorem psafe_is (xs : List Int) (hx : xs.length ≤ 1000) (k : Nat) (hk : xs.length < k) : peers_Safe.f k xs = some (safe xs) := by
  unfold peers_Safe.f safe
  have h := psafe_loop xs hx xs.length k 0 false false (by omega) (by omega) hk
  simpa using h
theorem peersAwake (k : Nat) : wharfingerlaw14_awake.f (k + 3) = some true := by
  unfold wharfingerlaw14_awake.f
  rw [decide_is, Option.bind_some, psafe_is [2, 3] (by decide) _ (by simp), psafe_is [2, 5] (by decide) _ (by simp)]
  rfl
end Go.Proofs.Ytnchlddbcomokab.Hh

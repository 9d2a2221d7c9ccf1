/- How many states may be gone through, as a plain function on a list; and the plain statement of VoteForms. -/
import Derived.Test.YtnchlddbcomokabVt
import Derived.Test.YtnchlddbcomokabHx9
import Derived.Test.YtnchlddbcomokabHx10
namespace Go.Proofs.Ytnchlddbcomokab.Hh
open Go.RowKit Go.Proofs.YtnchlddbcomokabW.PrintWords Go.Proofs.YtnchlddbcomokabW.PrintLast
set_option linter.unusedSimpArgs false

/-- May b come behind a? -/
def fol (a b : Int) : Bool := if a = b then true else if a = 0 then decide (b = 1) || decide (b = 3) else if a = 1 then (dc b).2 else false
theorem follows_is (k : Nat) (a b : Int) : vote_follows.f (k + 1) a b = some (fol a b) := by
  unfold vote_follows.f fol
  by_cases h : a = b
  · rw [if_pos h, if_pos h]
  · rw [if_neg h, if_neg h]
    by_cases h0 : a = 0
    · rw [if_pos h0, if_pos h0]
      by_cases h1 : b = 1
      · subst h1; rfl
      · rw [if_neg h1]
        by_cases h3 : b = 3
        · subst h3; rfl
        · simp [h1, h3]
    · rw [if_neg h0, if_neg h0]
      by_cases h1 : a = 1
      · rw [if_pos h1, if_pos h1, final_is]; rfl
      · rw [if_neg h1, if_neg h1]
/-- So many of a row that begins behind 'last', from number i on. -/
def lgs : List Int → Int → Nat → Nat
  | [], _, i => i
  | s :: l, last, i => if fol last s = true then lgs l s (i + 1) else i
def lg : List Int → Nat
  | [] => 0
  | s :: l => if s = 0 then lgs l 0 1 else 0

theorem legal_loop (xs : List Int) (hx : xs.length ≤ 1000) (d : Nat) : ∀ (k i : Nat) (last : Int), 1 ≤ i → i ≤ xs.length → xs.length - i = d → d + 1 < k →
      vote_Legal.l0 k xs last xs (xs.length : Int) (i : Int) = some ((lgs (xs.drop i) last i : Nat) : Int) := by
  induction d with
  | zero =>
    intro k i last h1 hi hd hk
    obtain ⟨k, rfl⟩ : ∃ m, k = m + 1 := ⟨k - 1, by omega⟩
    rw [vote_Legal.l0, if_neg (by omega), List.drop_eq_nil_of_le (by omega), lgs]
    congr 1; omega
  | succ d ih =>
    intro k i last h1 hi hd hk
    obtain ⟨k, rfl⟩ : ∃ m, k = (m + 1) + 1 := ⟨k - 2, by omega⟩
    have hlt : i < xs.length := by omega
    rw [vote_Legal.l0, if_pos (by omega), if_pos (by omega), if_pos (by omega), if_neg (by omega), follows_is, Option.bind_some, wrap_succ i xs.length hlt (by omega), drop_at xs i hlt, lgs]
    by_cases h : fol last (rd xs i) = true
    · rw [if_pos h, if_pos h, ih (k + 1) (i + 1) _ (by omega) (by omega) (by omega) (by omega)]
    · rw [if_neg h, if_neg h]
theorem legal_is (xs : List Int) (hx : xs.length ≤ 1000) (k : Nat) (hk : xs.length + 2 < k) : vote_Legal.f k xs = some ((lg xs : Nat) : Int) := by
  unfold vote_Legal.f
  cases xs with
  | nil =>
    obtain ⟨k, rfl⟩ : ∃ m, k = m + 1 := ⟨k - 1, by omega⟩
    rw [vote_Legal.l0, if_neg (by simp)]; rfl
  | cons s l =>
    rw [List.length_cons] at hk
    obtain ⟨k, rfl⟩ : ∃ m, k = (m + 1) + 1 := ⟨k - 2, by omega⟩
    rw [vote_Legal.l0, if_pos (by simp), if_pos (by omega), if_pos (by simp), if_pos rfl]
    have hr : rd (s :: l) 0 = s := rfl
    rw [hr, lg]
    by_cases h : s = 0
    · subst h
      rw [if_pos rfl, if_pos rfl, follows_is, Option.bind_some]
      have e : fol 0 0 = true := rfl
      have hw : wrap64 ((0 : Int) + 1) = ((1 : Nat) : Int) := by rw [wrap_id (by omega) (by omega)]; omega
      rw [e, if_pos rfl, hw, legal_loop (0 :: l) hx l.length (k + 1) 1 0 (by omega) (by simp) (by simp) (by omega)]
      rfl
    · rw [if_neg h, if_neg h]; rfl

theorem refFinal_is (s : Int) : wharfingerref12_Final.f s = some (dc s).2 := by
  unfold wharfingerref12_Final.f dc
  by_cases h : s ≥ 2
  · rw [if_pos h]
    by_cases h1 : s = 2 ∨ s = 4
    · rw [if_pos h1]; simp; omega
    · rw [if_neg h1]
      by_cases h2 : s = 3 ∨ s = 5
      · rw [if_pos h2]; simp; omega
      · rw [if_neg h2]; simp; omega
  · rw [if_neg h, if_neg (by omega), if_neg (by omega)]
theorem refLegal_loop (xs : List Int) (hx : xs.length ≤ 1000) (d : Nat) : ∀ (k i : Nat) (last : Int), 1 ≤ i → i ≤ xs.length → rd xs ((i - 1 : Nat) : Int) = last → xs.length - i = d → d + 1 < k →
      wharfingerref12_Legal.l0 k xs xs (xs.length : Int) (i : Int) = some ((lgs (xs.drop i) last i : Nat) : Int) := by
  induction d with
  | zero =>
    intro k i last h1 hi hl hd hk
    obtain ⟨k, rfl⟩ : ∃ m, k = m + 1 := ⟨k - 1, by omega⟩
    rw [wharfingerref12_Legal.l0, if_neg (by omega), List.drop_eq_nil_of_le (by omega), lgs]
    congr 1; omega
  | succ d ih =>
    intro k i last h1 hi hl hd hk
    obtain ⟨k, rfl⟩ : ∃ m, k = m + 1 := ⟨k - 1, by omega⟩
    have hlt : i < xs.length := by omega
    have hw : wrap64 ((i : Int) - 1) = ((i - 1 : Nat) : Int) := by rw [wrap_id (by omega) (by omega)]; omega
    rw [wharfingerref12_Legal.l0, if_pos (by omega), if_pos (by omega), if_pos (by omega), if_neg (by omega), hw, if_pos (by omega), if_pos (by omega), hl, refFinal_is, wrap_succ i xs.length hlt (by omega), drop_at xs i hlt, lgs]
    have hn := ih k (i + 1) (rd xs i) (by omega) (by omega) (by simp) (by omega) (by omega)
    rw [hn]
    generalize rd xs (i : Int) = s
    generalize lgs (xs.drop (i + 1)) s (i + 1) = r
    unfold fol
    by_cases he : s = last
    · rw [if_pos he, if_pos he.symm, if_pos rfl]
    · rw [if_neg he, if_neg (Ne.symm he)]
      by_cases h0 : last = 0
      · subst h0
        rw [if_pos rfl, if_pos rfl]
        by_cases h1 : s = 1
        · subst h1; simp
        · rw [if_neg h1]
          by_cases h3 : s = 3
          · subst h3; simp
          · rw [if_neg h3, if_neg (by omega)]; simp [h1, h3]
      · rw [if_neg h0, if_neg h0]
        by_cases h1 : last = 1
        · rw [if_pos h1, if_pos h1, Option.bind_some]
          rcases (dc s).2 with _ | _ <;> rfl
        · rw [if_neg h1, if_neg h1]; rfl
theorem refLegal_is (xs : List Int) (hx : xs.length ≤ 1000) (k : Nat) (hk : xs.length + 2 < k) : wharfingerref12_Legal.f k xs = some ((lg xs : Nat) : Int) := by
  unfold wharfingerref12_Legal.f
  cases xs with
  | nil =>
    obtain ⟨k, rfl⟩ : ∃ m, k = m + 1 := ⟨k - 1, by omega⟩
    rw [wharfingerref12_Legal.l0, if_neg (by simp)]; rfl
  | cons s l =>
    rw [List.length_cons] at hk
    obtain ⟨k, rfl⟩ : ∃ m, k = m + 1 := ⟨k - 1, by omega⟩
    rw [wharfingerref12_Legal.l0, if_pos (by simp), if_pos (by omega), if_pos (by simp), if_pos rfl]
    have hr : rd (s :: l) 0 = s := rfl
    rw [hr, lg]
    by_cases h : s = 0
    · subst h
      have hw : wrap64 ((0 : Int) + 1) = ((1 : Nat) : Int) := by rw [wrap_id (by omega) (by omega)]; omega
      rw [if_pos rfl, if_pos rfl, hw, refLegal_loop (0 :: l) hx l.length k 1 0 (by omega) (by simp) rfl (by simp) (by omega)]
      rfl
    · rw [if_neg h, if_neg h]; rfl
end Go.Proofs.Ytnchlddbcomokab.Hh

/- What the functions of force answer, as plain functions on lists of numbers. -/
import Derived.Test.YtnchlddbcomokaaHx1
namespace Go.Proofs.Ytnchlddbcomokaa.Hh
open Go.RowKit Go.Proofs.YtnchlddbcomokaaW.PrintWords Go.Proofs.YtnchlddbcomokaaW.PrintLast

theorem wrap_id {n : Int} (h : -9223372036854775808 ≤ n) (h' : n ≤ 9223372036854775807) : wrap64 n = n := by unfold wrap64; omega
theorem wrap_succ (i n : Nat) (h : i < n) (hn : n ≤ 281474976710656) : wrap64 ((i : Int) + 1) = ((i + 1 : Nat) : Int) := by rw [wrap_id (by omega) (by omega)]; omega
theorem drop_at (l : List Int) (i : Nat) (h : i < l.length) : l.drop i = rd l (i : Int) :: l.drop (i + 1) := force_Even.at_ l i h

def mayS (s : Int) : Bool := decide (0 ≤ s ∧ s ≤ 5)
theorem may_is (s : Int) : vote_May.f s = some (mayS s) := by
  unfold vote_May.f mayS
  by_cases h : s ≥ 0
  · rw [if_pos h]; simp; omega
  · rw [if_neg h]; simp; omega
/-- What was decided, if it was. -/
def dc (s : Int) : Bool × Bool := if s = 2 ∨ s = 4 then (true, true) else if s = 3 ∨ s = 5 then (false, true) else (false, false)
theorem decided_is (k : Nat) (s : Int) : vote_Decided.f (k + 1) s = some (dc s) := by
  unfold vote_Decided.f dc
  by_cases h2 : s = 2
  · subst h2; rfl
  · by_cases h4 : s = 4
    · subst h4; rfl
    · by_cases h3 : s = 3
      · subst h3; rfl
      · by_cases h5 : s = 5
        · subst h5; rfl
        · simp [h2, h4, h3, h5, vote_Decided.j0]

def dmg (s : Int) (yes : Bool) : Bool := (decide (s = 4) && !yes) || (decide (s = 5) && yes)
theorem dmg_body (s : Int) (yes : Bool) : (if s = 4 then (if yes = true then (if s = 5 then (some yes) else (some false)) else (some true)) else (if s = 5 then (some yes) else (some false))) = some (dmg s yes) := by
  unfold dmg
  by_cases h4 : s = 4
  · subst h4; cases yes <;> rfl
  · by_cases h5 : s = 5
    · subst h5; cases yes <;> rfl
    · simp [h4, h5]
theorem damage_is (s : Int) (yes : Bool) : force_Damage.f s yes = some (dmg s yes) := dmg_body s yes

def wh (yes : Bool) : List Int → Int → List Int
  | [], _ => []
  | s :: l, i => if dmg s yes = true then i :: wh yes l (i + 1) else wh yes l (i + 1)

/-- A loop that gathers the places at which something is damaged, whatever its name. -/
theorem which_loop (dm : Int → Bool → Option Bool) (hd : ∀ s y, dm s y = some (dmg s y)) (g : Nat → Bool → List Int → List Int → Int → Int → Option (List Int))
    (hg : ∀ k x1 x5 x8 x9 x10, g (k + 1) x1 x5 x8 x9 x10 = if x10 < x9 then (if 0 ≤ x10 then (if x10 < (x8.length : Int) then ((dm (rd x8 x10) x1).bind fun t103 => (if t103 = true then (if x5.length < 17592186044416 then (g k x1 (x5 ++ [x10]) x8 x9 (wrap64 (x10 + 1))) else (none)) else (g k x1 x5 x8 x9 (wrap64 (x10 + 1))))) else (none)) else (none)) else (some x5))
    (xs : List Int) (hx : xs.length ≤ 1000) (yes : Bool) (d : Nat) : ∀ (k i : Nat) (acc : List Int), i ≤ xs.length → xs.length - i = d → d < k → acc.length ≤ i →
      g k yes acc xs (xs.length : Int) (i : Int) = some (acc ++ wh yes (xs.drop i) i) := by
  induction d with
  | zero =>
    intro k i acc hi hd' hk ha
    obtain ⟨k, rfl⟩ : ∃ m, k = m + 1 := ⟨k - 1, by omega⟩
    rw [hg, if_neg (by omega), List.drop_eq_nil_of_le (by omega), wh, List.append_nil]
  | succ d ih =>
    intro k i acc hi hd' hk ha
    obtain ⟨k, rfl⟩ : ∃ m, k = m + 1 := ⟨k - 1, by omega⟩
    have hlt : i < xs.length := by omega
    rw [hg, if_pos (by omega), if_pos (by omega), if_pos (by omega), hd, Option.bind_some, wrap_succ i xs.length hlt (by omega), drop_at xs i hlt, wh]
    by_cases h : dmg (rd xs i) yes = true
    · rw [if_pos h, if_pos h, if_pos (by omega), ih k (i + 1) _ (by omega) (by omega) (by omega) (by simp; omega)]
      simp
    · rw [if_neg h, if_neg h, ih k (i + 1) _ (by omega) (by omega) (by omega) (by omega)]
      rw [show ((i + 1 : Nat) : Int) = (i : Int) + 1 from by omega]
theorem which_is (xs : List Int) (hx : xs.length ≤ 1000) (yes : Bool) (k : Nat) (hk : xs.length < k) : force_Which.f k xs yes = some (wh yes xs 0) := by
  unfold force_Which.f
  have h := which_loop force_Damage.f damage_is force_Which.l0 (fun _ _ _ _ _ _ => rfl) xs hx yes xs.length k 0 [] (by omega) (by omega) hk (by simp)
  simpa using h

theorem same_loop (xs ys : List Int) (he : xs = ys) (hx : xs.length ≤ 281474976710656) (d : Nat) : ∀ (k i : Nat), i ≤ xs.length → xs.length - i = d → d < k →
      wharfingerref1_SameInts.l0 k xs ys (xs.length : Int) (i : Int) = some true := by
  subst he
  induction d with
  | zero =>
    intro k i hi hd' hk
    obtain ⟨k, rfl⟩ : ∃ m, k = m + 1 := ⟨k - 1, by omega⟩
    rw [wharfingerref1_SameInts.l0, if_neg (by omega)]
  | succ d ih =>
    intro k i hi hd' hk
    obtain ⟨k, rfl⟩ : ∃ m, k = m + 1 := ⟨k - 1, by omega⟩
    rw [wharfingerref1_SameInts.l0, if_pos (by omega), if_pos (by omega), if_pos (by omega), if_pos (by omega), if_pos rfl, wrap_succ i xs.length (by omega) hx]
    exact ih k (i + 1) (by omega) (by omega) (by omega)
theorem same_is (xs : List Int) (hx : xs.length ≤ 281474976710656) (k : Nat) (hk : xs.length < k) : wharfingerref1_SameInts.f k xs xs = some true := by
  unfold wharfingerref1_SameInts.f
  rw [if_pos rfl]
  exact same_loop xs xs rfl hx xs.length k 0 (by omega) (by omega) hk

def isYes (s : Int) : Bool := decide (s = 2) || decide (s = 4)
def isNo (s : Int) : Bool := decide (s = 3) || decide (s = 5)
def evn (l : List Int) : Bool := !(l.any isNo) || !(l.any isYes)
theorem even_loop (k : Nat) : ∀ (l : List Int) (a b : Bool), force_Even.l0 (k + 1) l a b = some (!(a || l.any isNo) || !(b || l.any isYes)) := by
  intro l
  induction l with
  | nil => intro a b; simp [force_Even.l0]
  | cons s l ih =>
    intro a b
    rw [force_Even.l0, decided_is, Option.bind_some, ih, ih, ih, List.any_cons, List.any_cons]
    unfold dc isYes isNo
    by_cases h2 : s = 2
    · subst h2; simp
    · by_cases h4 : s = 4
      · subst h4; simp
      · by_cases h3 : s = 3
        · subst h3; simp
        · by_cases h5 : s = 5
          · subst h5; simp
          · simp [h2, h4, h3, h5]
theorem even_is (k : Nat) (l : List Int) : force_Even.f (k + 1) l = some (evn l) := by
  unfold force_Even.f evn
  rw [even_loop]; simp

def fc (s : Int) (yes : Bool) : Int × Int := if mayS s = true then (if s = 1 then (if yes = true then (4, 0) else (5, 0)) else (0, 7)) else (0, 1)
theorem force_is (s : Int) (yes : Bool) : force_Force.f s yes = some (fc s yes) := by
  unfold force_Force.f fc
  rw [may_is, Option.bind_some]
  split
  · split
    · split <;> rfl
    · rfl
  · rfl
theorem forceAwake (k : Nat) : wharfingerlaw15_awake.f (k + 5) = some true := by
  unfold wharfingerlaw15_awake.f
  rw [force_is, Option.bind_some]
  have e : fc 1 false = (5, 0) := rfl
  rw [e, if_pos rfl, if_pos rfl, which_is [2, 5] (by decide) true _ (by simp), Option.bind_some]
  have e2 : wh true [2, 5] 0 = [1] := rfl
  rw [e2, same_is [1] (by decide) _ (by simp), Option.bind_some, if_pos rfl, even_is]
  rfl
end Go.Proofs.Ytnchlddbcomokaa.Hh

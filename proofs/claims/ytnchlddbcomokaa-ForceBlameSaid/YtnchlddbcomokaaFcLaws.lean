/- The plain statements of ForceForms and ForceBlame. -/
import Derived.Test.YtnchlddbcomokaaFc
import Derived.Test.YtnchlddbcomokaaHx2
import Derived.Test.YtnchlddbcomokaaHx3
namespace Go.Proofs.Ytnchlddbcomokaa.Hh
open Go.RowKit Go.Proofs.YtnchlddbcomokaaW.PrintWords Go.Proofs.YtnchlddbcomokaaW.PrintLast
set_option linter.unusedSimpArgs false

theorem refMay_is (s : Int) : wharfingerref12_May.f s = some (mayS s) := may_is s
theorem refDamage_is (s : Int) (yes : Bool) : wharfingerref12_Damage.f s yes = some (dmg s yes) := dmg_body s yes
theorem refForce_is (s : Int) (yes : Bool) : wharfingerref12_Force.f s yes = some (fc s yes) := by
  unfold wharfingerref12_Force.f fc
  rw [refMay_is, Option.bind_some]
  split
  · split
    · split <;> rfl
    · rfl
  · rfl
theorem refWhich_is (xs : List Int) (hx : xs.length ≤ 1000) (yes : Bool) (k : Nat) (hk : xs.length < k) : wharfingerref12_Which.f k xs yes = some (wh yes xs 0) := by
  unfold wharfingerref12_Which.f
  have h := which_loop wharfingerref12_Damage.f refDamage_is wharfingerref12_Which.l0 (fun _ _ _ _ _ _ => rfl) xs hx yes xs.length k 0 [] (by omega) (by omega) hk (by simp)
  simpa using h
theorem refDecided_is (s : Int) : wharfingerref12_Decided.f s = some (decide (s = 2) || decide (s = 4), decide (2 ≤ s ∧ s ≤ 5)) := by
  unfold wharfingerref12_Decided.f wharfingerref12_Final.f
  by_cases h2 : s = 2
  · subst h2; rfl
  · rw [if_neg h2]
    by_cases h : s ≥ 2
    · rw [if_pos h]
      by_cases h4 : s = 4
      · subst h4; rfl
      · simp [h2, h4]; omega
    · rw [if_neg h]
      have h4 : s ≠ 4 := by omega
      simp [h2, h4]; omega
theorem refEven_loop (xs : List Int) (hx : xs.length ≤ 1000) (d : Nat) : ∀ (k i : Nat) (y n : Bool), i ≤ xs.length → xs.length - i = d → d < k →
      wharfingerref12_Even.l0 k y n xs (xs.length : Int) (i : Int) = some (!(n || (xs.drop i).any isNo) || !(y || (xs.drop i).any isYes)) := by
  induction d with
  | zero =>
    intro k i y n hi hd hk
    obtain ⟨k, rfl⟩ : ∃ m, k = m + 1 := ⟨k - 1, by omega⟩
    rw [wharfingerref12_Even.l0, if_neg (by omega), List.drop_eq_nil_of_le (by omega)]
    cases y <;> cases n <;> rfl
  | succ d ih =>
    intro k i y n hi hd hk
    obtain ⟨k, rfl⟩ : ∃ m, k = m + 1 := ⟨k - 1, by omega⟩
    have hlt : i < xs.length := by omega
    rw [wharfingerref12_Even.l0, if_pos (by omega), if_pos (by omega), if_pos (by omega), refDecided_is, Option.bind_some, wrap_succ i xs.length hlt (by omega), drop_at xs i hlt, List.any_cons, List.any_cons]
    have IH := fun y n => ih k (i + 1) y n (by omega) (by omega) (by omega)
    generalize rd xs (i : Int) = s
    generalize (xs.drop (i + 1)).any isNo = A at IH ⊢
    generalize (xs.drop (i + 1)).any isYes = B at IH ⊢
    generalize ((i + 1 : Nat) : Int) = j at IH ⊢
    by_cases h2 : s = 2
    · subst h2; cases y <;> cases n <;> simp [IH, isNo, isYes]
    · by_cases h4 : s = 4
      · subst h4; cases y <;> cases n <;> simp [IH, isNo, isYes]
      · by_cases h3 : s = 3
        · subst h3; cases y <;> cases n <;> simp [IH, isNo, isYes]
        · by_cases h5 : s = 5
          · subst h5; cases y <;> cases n <;> simp [IH, isNo, isYes]
          · have hf : decide (2 ≤ s ∧ s ≤ 5) = false := by simp; omega
            rw [hf]
            cases y <;> cases n <;> simp [IH, isNo, isYes, h2, h4, h3, h5]
theorem refEven_is (xs : List Int) (hx : xs.length ≤ 1000) (k : Nat) (hk : xs.length < k) : wharfingerref12_Even.f k xs = some (evn xs) := by
  unfold wharfingerref12_Even.f evn
  have h := refEven_loop xs hx xs.length k 0 false false (by omega) (by omega) hk
  simpa using h
theorem wh_length (yes : Bool) : ∀ (l : List Int) (i : Int), (wh yes l i).length ≤ l.length
  | [], _ => by simp [wh]
  | s :: l, i => by
    have h1 := wh_length yes l (i + 1)
    unfold wh
    split
    · simp; omega
    · simp; omega
theorem ForceForms_pure : wharfingerlaw15_ForceForms.Pure := by
  intro s yes l _ _ _ _
  refine ⟨l.length + 5, ?_⟩
  unfold wharfingerlaw15_ForceForms.f
  rw [forceAwake]
  by_cases h : (l.length : Int) > 200
  · rw [if_pos h]; rfl
  · have hw := wh_length yes l 0
    rw [if_neg h, force_is, Option.bind_some, refForce_is, Option.bind_some, if_pos rfl, if_pos rfl, damage_is, Option.bind_some, refDamage_is, Option.bind_some, if_pos (by simp), which_is l (by omega) yes _ (by omega), Option.bind_some,
      refWhich_is l (by omega) yes _ (by omega), Option.bind_some, same_is _ (by omega) _ (by omega), Option.bind_some, if_pos rfl, even_is, Option.bind_some, refEven_is l (by omega) _ (by omega), Option.bind_some, if_pos (by simp)]
    rfl

def isC (s : Int) : Bool := decide (s = 2)
def isA (s : Int) : Bool := decide (s = 3) || decide (s = 0)
def safe (l : List Int) : Bool := l.all mayS && (!(l.any isC) || !(l.any isA))
theorem refTells_is (s : Int) : wharfingerref12_Tells.f s = some (if s = 2 then 13 else if s = 3 ∨ s = 0 then 14 else 0) := by
  unfold wharfingerref12_Tells.f
  by_cases h2 : s = 2
  · rw [if_pos h2, if_pos h2]
  · rw [if_neg h2, if_neg h2]
    by_cases h3 : s = 3
    · rw [if_pos h3, if_pos (.inl h3)]
    · rw [if_neg h3]
      by_cases h0 : s = 0
      · rw [if_pos h0, if_pos (.inr h0)]
      · rw [if_neg h0, if_neg (by omega)]
theorem refSafe_loop (xs : List Int) (hx : xs.length ≤ 1000) (d : Nat) : ∀ (k i : Nat) (y n : Bool), i ≤ xs.length → xs.length - i = d → d < k →
      wharfingerref12_Safe.l0 k y n xs (xs.length : Int) (i : Int) = some ((xs.drop i).all mayS && (!(y || (xs.drop i).any isC) || !(n || (xs.drop i).any isA))) := by
  induction d with
  | zero =>
    intro k i y n hi hd hk
    obtain ⟨k, rfl⟩ : ∃ m, k = m + 1 := ⟨k - 1, by omega⟩
    rw [wharfingerref12_Safe.l0, if_neg (by omega), List.drop_eq_nil_of_le (by omega)]
    cases y <;> cases n <;> rfl
  | succ d ih =>
    intro k i y n hi hd hk
    obtain ⟨k, rfl⟩ : ∃ m, k = m + 1 := ⟨k - 1, by omega⟩
    have hlt : i < xs.length := by omega
    rw [wharfingerref12_Safe.l0, if_pos (by omega), if_pos (by omega), if_pos (by omega), refMay_is, Option.bind_some, refTells_is, wrap_succ i xs.length hlt (by omega), drop_at xs i hlt, List.any_cons, List.any_cons, List.all_cons]
    have IH := fun y n => ih k (i + 1) y n (by omega) (by omega) (by omega)
    generalize rd xs (i : Int) = s
    generalize (xs.drop (i + 1)).any isC = A at IH ⊢
    generalize (xs.drop (i + 1)).any isA = B at IH ⊢
    generalize (xs.drop (i + 1)).all mayS = C at IH ⊢
    generalize ((i + 1 : Nat) : Int) = j at IH ⊢
    by_cases hm : mayS s = true
    · rw [if_pos hm, hm]
      by_cases h2 : s = 2
      · subst h2; cases y <;> cases n <;> simp [IH, isC, isA]
      · by_cases h3 : s = 3
        · subst h3; cases y <;> cases n <;> simp [IH, isC, isA]
        · by_cases h0 : s = 0
          · subst h0; cases y <;> cases n <;> simp [IH, isC, isA]
          · cases y <;> cases n <;> simp [IH, isC, isA, h2, h3, h0]
    · rw [if_neg hm]
      have hm' : mayS s = false := by simpa using hm
      rw [hm']; simp
theorem refSafe_is (xs : List Int) (hx : xs.length ≤ 1000) (k : Nat) (hk : xs.length < k) : wharfingerref12_Safe.f k xs = some (safe xs) := by
  unfold wharfingerref12_Safe.f safe
  have h := refSafe_loop xs hx xs.length k 0 false false (by omega) (by omega) hk
  simpa using h

def isF (s : Int) : Bool := decide (s = 4) || decide (s = 5)
def isW (yes : Bool) (s : Int) : Bool := (decide (s = 2) && yes) || (decide (s = 3) && !yes)
/-- What stands behind the two loops of ForceBlame. -/
def tailB (x0 : List Int) (x1 : Bool) (k : Nat) (x5 x8 : Int) : Option Bool := if x5 > 0 then (if x8 = 0 then ((wharfingerlaw15_awake.f k).bind fun t164 => (some t164)) else ((force_Which.f k x0 x1).bind fun t165 => (if (t165.length : Int) > 0 then ((wharfingerlaw15_awake.f k).bind fun t168 => (some t168)) else (some false)))) else (some false)
theorem blame1 (x0 : List Int) (yes : Bool) (F : Int) (xs : List Int) (hx : xs.length ≤ 1000) (d : Nat) : ∀ (k i c : Nat), i ≤ xs.length → xs.length - i = d → c ≤ i →
      wharfingerlaw15_ForceBlame.l1 (k + d + 1) x0 yes F (c : Int) xs (xs.length : Int) (i : Int) = tailB x0 yes k F ((c + (xs.drop i).countP (isW yes) : Nat) : Int) := by
  induction d with
  | zero =>
    intro k i c hi hd hc
    rw [wharfingerlaw15_ForceBlame.l1, if_neg (by omega), List.drop_eq_nil_of_le (by omega)]
    simp [tailB]
  | succ d ih =>
    intro k i c hi hd hc
    have hlt : i < xs.length := by omega
    rw [show k + (d + 1) + 1 = (k + d + 1) + 1 from by omega, wharfingerlaw15_ForceBlame.l1, if_pos (by omega), if_pos (by omega), if_pos (by omega), wrap_succ i xs.length hlt (by omega), drop_at xs i hlt, List.countP_cons]
    have hw : wrap64 ((c : Int) + 1) = ((c + 1 : Nat) : Int) := by rw [wrap_id (by omega) (by omega)]; omega
    rw [hw, ih k (i + 1) c (by omega) (by omega) (by omega), ih k (i + 1) (c + 1) (by omega) (by omega) (by omega)]
    generalize rd xs (i : Int) = s
    generalize (xs.drop (i + 1)).countP (isW yes) = A
    rw [show c + 1 + A = c + (A + 1) from by omega]
    by_cases h2 : s = 2
    · subst h2; cases yes
      · simp [isW]
      · simp [isW]
    · by_cases h3 : s = 3
      · subst h3; cases yes
        · simp [isW]
        · simp [isW]
      · simp [isW, h2, h3]
theorem blame0 (x0 : List Int) (yes : Bool) (xs : List Int) (hx : xs.length ≤ 1000) (d : Nat) : ∀ (k i c : Nat), i ≤ xs.length → xs.length - i = d → c ≤ i →
      wharfingerlaw15_ForceBlame.l0 (k + d + 1) x0 yes (c : Int) xs (xs.length : Int) (i : Int) = wharfingerlaw15_ForceBlame.l1 k x0 yes ((c + (xs.drop i).countP isF : Nat) : Int) 0 x0 (x0.length : Int) 0 := by
  induction d with
  | zero =>
    intro k i c hi hd hc
    rw [wharfingerlaw15_ForceBlame.l0, if_neg (by omega), List.drop_eq_nil_of_le (by omega)]
    simp
  | succ d ih =>
    intro k i c hi hd hc
    have hlt : i < xs.length := by omega
    rw [show k + (d + 1) + 1 = (k + d + 1) + 1 from by omega, wharfingerlaw15_ForceBlame.l0, if_pos (by omega), if_pos (by omega), if_pos (by omega), wrap_succ i xs.length hlt (by omega), drop_at xs i hlt, List.countP_cons]
    have hw : wrap64 ((c : Int) + 1) = ((c + 1 : Nat) : Int) := by rw [wrap_id (by omega) (by omega)]; omega
    rw [hw, ih k (i + 1) c (by omega) (by omega) (by omega), ih k (i + 1) (c + 1) (by omega) (by omega) (by omega)]
    generalize rd xs (i : Int) = s
    generalize (xs.drop (i + 1)).countP isF = A
    rw [show c + 1 + A = c + (A + 1) from by omega]
    by_cases h4 : s = 4
    · subst h4; simp [isF]
    · by_cases h5 : s = 5
      · subst h5; simp [isF]
      · simp [isF, h4, h5]
theorem wh_mem (yes : Bool) : ∀ (l : List Int) (i : Int), (∃ s ∈ l, dmg s yes = true) → 0 < (wh yes l i).length
  | [], _, h => by obtain ⟨s, hs, _⟩ := h; cases hs
  | s :: l, i, h => by
    unfold wh
    by_cases hs : dmg s yes = true
    · rw [if_pos hs]; simp
    · rw [if_neg hs]
      apply wh_mem yes l (i + 1)
      obtain ⟨t, ht, hd⟩ := h
      rcases List.mem_cons.1 ht with rfl | ht
      · exact absurd hd hs
      · exact ⟨t, ht, hd⟩
theorem has2 {l : List Int} {f : Int → Bool} (h : l.any f = true) : ∃ s ∈ l, f s = true := List.any_eq_true.1 h
theorem blame_law (l : List Int) (yes : Bool) (hs : safe l = true) (he : evn l = false) : 0 < l.countP isF ∧ (l.countP (isW yes) = 0 ∨ 0 < (wh yes l 0).length) := by
  unfold evn at he
  simp only [Bool.or_eq_false_iff, Bool.not_eq_false'] at he
  obtain ⟨hno, hyes⟩ := he
  obtain ⟨a, ha, hna⟩ := has2 hno
  obtain ⟨b, hb, hyb⟩ := has2 hyes
  unfold safe at hs
  simp only [Bool.and_eq_true] at hs
  have hnot : ¬ (2 ∈ l ∧ 3 ∈ l) := by
    rintro ⟨h2, h3⟩
    have c : l.any isC = true := List.any_eq_true.2 ⟨2, h2, rfl⟩
    have d : l.any isA = true := List.any_eq_true.2 ⟨3, h3, rfl⟩
    rw [c, d] at hs
    simp at hs
  unfold isNo at hna
  unfold isYes at hyb
  simp at hna hyb
  constructor
  · rw [List.countP_pos_iff]
    rcases hna with rfl | rfl
    · rcases hyb with rfl | rfl
      · exact absurd ⟨hb, ha⟩ hnot
      · exact ⟨4, hb, rfl⟩
    · exact ⟨5, ha, rfl⟩
  · by_cases hw : l.countP (isW yes) = 0
    · exact .inl hw
    · right
      have : 0 < l.countP (isW yes) := by omega
      obtain ⟨c, hc, hwc⟩ := List.countP_pos_iff.1 this
      apply wh_mem
      unfold isW at hwc
      simp at hwc
      rcases hwc with ⟨rfl, rfl⟩ | ⟨rfl, rfl⟩
      · rcases hna with rfl | rfl
        · exact absurd ⟨hc, ha⟩ hnot
        · exact ⟨5, ha, rfl⟩
      · rcases hyb with rfl | rfl
        · exact absurd ⟨hb, hc⟩ hnot
        · exact ⟨4, hb, rfl⟩
theorem tailB_true (l : List Int) (hl : l.length ≤ 60) (yes : Bool) (f w : Nat) (k : Nat) (hk : l.length + 5 ≤ k) (hf : 0 < f) (hw : w = 0 ∨ 0 < (wh yes l 0).length) : tailB l yes k (f : Int) (w : Int) = some true := by
  obtain ⟨k, rfl⟩ : ∃ m, k = m + 5 := ⟨k - 5, by omega⟩
  unfold tailB
  rw [if_pos (by omega), forceAwake, which_is l (by omega) yes _ (by omega)]
  by_cases h : (w : Int) = 0
  · rw [if_pos h]; rfl
  · rw [if_neg h, Option.bind_some, if_pos (by omega)]; rfl
theorem ForceBlame_j0 (l : List Int) (yes b : Bool) (hb : b = false → safe l = true ∧ l.length ≤ 60) (k : Nat) (hk : k = (((l.length + 5) + l.length + 1) + l.length + 1) + 1) : wharfingerlaw15_ForceBlame.j0 k l yes b = some true := by
  subst hk
  rw [wharfingerlaw15_ForceBlame.j0]
  have aw : wharfingerlaw15_awake.f ((l.length + 5) + l.length + 1 + l.length + 1) = some true := by
    rw [show (l.length + 5) + l.length + 1 + l.length + 1 = (l.length + l.length + l.length + 2) + 5 from by omega]; exact forceAwake _
  cases b with
  | true => rw [if_pos rfl, aw]; rfl
  | false =>
    obtain ⟨hs, hl⟩ := hb rfl
    rw [if_neg (by simp), even_is, Option.bind_some, aw]
    by_cases he : evn l = true
    · rw [if_pos he]; rfl
    · rw [if_neg he]
      have h0 := blame0 l yes l (by omega) l.length ((l.length + 5) + l.length + 1) 0 0 (by omega) (by omega) (by omega)
      have h1 := blame1 l yes ((0 + (l.drop 0).countP isF : Nat) : Int) l (by omega) l.length (l.length + 5) 0 0 (by omega) (by omega) (by omega)
      rw [show ((0 : Nat) : Int) = 0 from rfl] at h0 h1
      rw [h0, h1]
      have hb := blame_law l yes hs (by simpa using he)
      rw [List.drop_zero, Nat.zero_add, Nat.zero_add]
      exact tailB_true l hl yes _ _ _ (by omega) hb.1 hb.2
theorem ForceBlame_pure : wharfingerlaw15_ForceBlame.Pure := by
  intro l yes _ _ _
  refine ⟨(((l.length + 5) + l.length + 1) + l.length + 1) + 1, ?_⟩
  unfold wharfingerlaw15_ForceBlame.f
  by_cases h : (l.length : Int) > 60
  · rw [if_pos h]; exact ForceBlame_j0 l yes true (fun h => by cases h) _ rfl
  · rw [if_neg h, refSafe_is l (by omega) _ (by omega), Option.bind_some]
    exact ForceBlame_j0 l yes _ (fun hb => ⟨by simpa using hb, by omega⟩) _ rfl
end Go.Proofs.Ytnchlddbcomokaa.Hh

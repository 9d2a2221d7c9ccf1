/- The plain statements of ForceOnly and ForceWhich. -/
import Derived.Test.YtnchlddbcomokabFc
import Derived.Test.YtnchlddbcomokabHx2
namespace Go.Proofs.Ytnchlddbcomokab.Hh
open Go.RowKit Go.Proofs.YtnchlddbcomokabW.PrintWords Go.Proofs.YtnchlddbcomokabW.PrintLast
set_option linter.unusedSimpArgs false

theorem ForceOnly_pure : wharfingerlaw15_ForceOnly.Pure := by
  intro s yes _
  refine ⟨5, ?_⟩
  unfold wharfingerlaw15_ForceOnly.f
  rw [force_is, Option.bind_some, show (5 : Nat) = 0 + 5 from rfl, forceAwake]
  by_cases h : s = 1
  · subst h
    cases yes <;> simp [fc, mayS, wharfingerref12_Final.f, damage_is, dmg, even_is 4, evn, isNo, isYes]
  · rw [if_neg h]
    unfold fc
    by_cases hm : mayS s = true
    · simp [hm, h]
    · simp [hm]
theorem other_is (s : Int) (yes : Bool) : (decide (s = 5) && yes || decide (s = 4) && !yes) = dmg s yes := by
  unfold dmg
  rw [Bool.or_comm]
/-- What stands behind the loop of ForceWhich. -/
theorem which_tail (xs : List Int) (hx : xs.length ≤ 60) (yes : Bool) (d : Nat) : ∀ (k i : Nat) (done : List Int), i ≤ xs.length → xs.length - i = d → done.length ≤ i → 2 * d + 6 < k →
      wharfingerlaw15_ForceWhich.l0 k yes (done ++ wh yes (xs.drop i) i) (done.length : Int) xs (xs.length : Int) (i : Int) = some true := by
  induction d with
  | zero =>
    intro k i done hi hd hl hk
    obtain ⟨k, rfl⟩ : ∃ m, k = (m + 5) + 1 := ⟨k - 6, by omega⟩
    rw [wharfingerlaw15_ForceWhich.l0, if_neg (by omega), List.drop_eq_nil_of_le (by omega), wh, List.append_nil, if_pos rfl, forceAwake]; rfl
  | succ d ih =>
    intro k i done hi hd hl hk
    obtain ⟨k, rfl⟩ : ∃ m, k = m + 1 := ⟨k - 1, by omega⟩
    have hlt : i < xs.length := by omega
    have e : wharfingerlaw15_ForceWhich.l0 (k + 1) yes (done ++ wh yes (xs.drop i) i) (done.length : Int) xs (xs.length : Int) (i : Int) = wharfingerlaw15_ForceWhich.j1 k yes (done ++ wh yes (xs.drop i) i) (done.length : Int) (i : Int) (dmg (rd xs i) yes) xs (xs.length : Int) (i : Int) := by
      rw [wharfingerlaw15_ForceWhich.l0, if_pos (by omega), if_pos (by omega), if_pos (by omega)]
      generalize rd xs (i : Int) = s
      generalize wh yes (xs.drop i) i = r
      by_cases h5 : s = 5
      · subst h5; cases yes <;> simp [dmg]
      · by_cases h4 : s = 4
        · subst h4; simp [dmg]
        · simp [dmg, h5, h4]
    rw [e]
    obtain ⟨k, rfl⟩ : ∃ m, k = m + 1 := ⟨k - 1, by omega⟩
    rw [wharfingerlaw15_ForceWhich.j1, drop_at xs i hlt, wh, wrap_succ i xs.length hlt (by omega)]
    by_cases h : dmg (rd xs i) yes = true
    · rw [if_pos h, if_pos h, if_neg (by rw [List.length_append, List.length_cons]; omega), if_pos (by omega), if_pos (by rw [List.length_append, List.length_cons]; omega)]
      have hr : rd (done ++ (i : Int) :: wh yes (xs.drop (i + 1)) ((i : Int) + 1)) (done.length : Int) = (i : Int) := by
        unfold rd; rw [Int.toNat_natCast]; simp
      rw [hr, if_pos rfl]
      have hw : wrap64 ((done.length : Int) + 1) = (((done ++ [(i : Int)]).length : Nat) : Int) := by rw [wrap_id (by omega) (by omega)]; simp
      rw [hw, show done ++ (i : Int) :: wh yes (xs.drop (i + 1)) ((i : Int) + 1) = (done ++ [(i : Int)]) ++ wh yes (xs.drop (i + 1)) ((i + 1 : Nat) : Int) from by simp]
      exact ih k (i + 1) (done ++ [(i : Int)]) (by omega) (by omega) (by simp; omega) (by omega)
    · rw [if_neg h, if_neg h, show ((i : Int) + 1) = ((i + 1 : Nat) : Int) from by omega]
      exact ih k (i + 1) done (by omega) (by omega) (by omega) (by omega)
theorem ForceWhich_pure : wharfingerlaw15_ForceWhich.Pure := by
  intro l yes _ _ _
  refine ⟨2 * l.length + 12, ?_⟩
  unfold wharfingerlaw15_ForceWhich.f
  by_cases h : (l.length : Int) > 60
  · rw [if_pos h, show 2 * l.length + 12 = (2 * l.length + 7) + 5 from by omega, forceAwake]; rfl
  · rw [if_neg h, which_is l (by omega) yes _ (by omega), Option.bind_some]
    have := which_tail l (by omega) yes l.length (2 * l.length + 12) 0 [] (by omega) (by omega) (by simp) (by omega)
    simpa using this
end Go.Proofs.Ytnchlddbcomokab.Hh

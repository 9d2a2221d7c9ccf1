/- The plain statement of VoteStays: every way that messages lead through the states is legal, and what is decided stays. -/
import Derived.Test.YtnchlddbcomokabLg
import Derived.Test.YtnchlddbcomokabHx11
namespace Go.Proofs.Ytnchlddbcomokab.Hh
open Go.RowKit Go.Proofs.YtnchlddbcomokabW.PrintWords Go.Proofs.YtnchlddbcomokabW.PrintLast
set_option linter.unusedSimpArgs false

/-- The last of a row that stands behind a. -/
def lst : List Int → Int → Int
  | [], a => a
  | s :: l, _ => lst l s
theorem lst_snoc (b : Int) : ∀ (l : List Int) (a : Int), lst (l ++ [b]) a = b
  | [], _ => rfl
  | s :: l, _ => lst_snoc b l s
theorem lgs_snoc (b : Int) : ∀ (l : List Int) (a : Int) (i : Nat), lgs l a i = i + l.length → fol (lst l a) b = true → lgs (l ++ [b]) a i = i + l.length + 1
  | [], a, i, _, h => by
    show (if fol a b = true then lgs [] b (i + 1) else i) = _
    rw [if_pos (show fol a b = true from h)]; rfl
  | s :: l, a, i, h, hf => by
    rw [lgs, List.length_cons] at h
    rw [List.cons_append, lgs, List.length_cons]
    by_cases hs : fol a s = true
    · rw [if_pos hs] at h ⊢
      have := lgs_snoc b l s (i + 1) (by omega) hf
      omega
    · rw [if_neg hs] at h; omega
theorem fol_self (a : Int) : fol a a = true := by unfold fol; rw [if_pos rfl]
theorem nx_fol (s kind : Int) (can : Bool) : fol s (nx s kind can).1 = true :=
  nx_all (fun s _ _ p => fol s p.1 = true) s kind can (by decide) (fun s _ _ => fol_self s)
theorem nx_final (s kind : Int) (can : Bool) (h : (dc s).2 = true) : (nx s kind can).1 = s :=
  nx_all (fun s _ _ p => (dc s).2 = true → p.1 = s) s kind can (by decide) (fun _ _ _ _ => rfl) h

theorem stays_end (way : List Int) (hl : lg way = way.length) (hw : way.length ≤ 300) (k : Nat) (hk : 310 < k) :
    ((vote_Legal.f k way).bind fun t348 => (if t348 = (way.length : Int) then ((wharfingerlaw12_awake.f k).bind fun t349 => (some t349)) else (some false))) = some true := by
  obtain ⟨k, rfl⟩ : ∃ m, k = m + 3 := ⟨k - 3, by omega⟩
  rw [legal_is way (by omega) _ (by omega), Option.bind_some, hl, if_pos rfl, voteAwake]; rfl
theorem stays_loop (cs : List Bool) (xs : List Int) (d : Nat) : ∀ (k i : Nat) (s : Int) (rest : List Int), i + d = 200 → i ≤ xs.length → 2 * d + 320 < k → mayS s = true → rest.length = i → lgs rest 0 1 = 1 + rest.length → lst rest 0 = s →
      wharfingerlaw12_VoteStays.l0 k cs s (0 :: rest) xs (xs.length : Int) (i : Int) = some true := by
  induction d with
  | zero =>
    intro k i s rest hi hle hk hm hr hl hs
    obtain ⟨k, rfl⟩ : ∃ m, k = m + 1 := ⟨k - 1, by omega⟩
    have he := stays_end (0 :: rest) (by rw [lg, if_pos rfl, hl, List.length_cons]; omega) (by simp; omega) k (by omega)
    rw [wharfingerlaw12_VoteStays.l0]
    by_cases h : (i : Int) < (xs.length : Int)
    · rw [if_pos h, if_pos (by omega), if_pos h, if_pos (by omega)]; exact he
    · rw [if_neg h]; exact he
  | succ d ih =>
    intro k i s rest hi hle hk hm hr hl hs
    obtain ⟨k, rfl⟩ : ∃ m, k = ((m + 3) + 1) + 1 := ⟨k - 5, by omega⟩
    have he := stays_end (0 :: rest) (by rw [lg, if_pos rfl, hl, List.length_cons]; omega) (by simp; omega) (k + 3 + 1) (by omega)
    rw [wharfingerlaw12_VoteStays.l0]
    by_cases h : (i : Int) < (xs.length : Int)
    · rw [if_pos h, if_pos (by omega), if_pos h, if_neg (by omega)]
      have step : ∀ can : Bool, wharfingerlaw12_VoteStays.j1 (k + 3 + 1) cs s (0 :: rest) (nx s (rd xs i) can).1 xs (xs.length : Int) (i : Int) = some true := by
        intro can
        have hf := nx_fol s (rd xs i) can
        have hn := nx_may s (rd xs i) can hm
        have hfin := nx_final s (rd xs i) can
        generalize (nx s (rd xs i) can).1 = n at *
        have hgo : wharfingerlaw12_VoteStays.l0 (k + 3) cs n ((0 :: rest) ++ [n]) xs (xs.length : Int) ((i + 1 : Nat) : Int) = some true := by
          rw [List.cons_append]
          refine ih (k + 3) (i + 1) n (rest ++ [n]) (by omega) (by omega) (by omega) hn (by simp; omega) ?_ (lst_snoc n rest 0)
          have := lgs_snoc n rest 0 1 hl (by rw [hs]; exact hf)
          rw [List.length_append, this]; simp; omega
        have hw : wrap64 ((i : Int) + 1) = ((i + 1 : Nat) : Int) := by rw [wrap_id (by omega) (by omega)]; omega
        have hlen : (0 :: rest).length < 17592186044416 := by rw [List.length_cons]; omega
        rw [wharfingerlaw12_VoteStays.j1, final_is, Option.bind_some, may_is, hn, hw, hgo]
        by_cases hd : (dc s).2 = true
        · rw [if_pos hd, if_pos (hfin hd), Option.bind_some, if_pos rfl, if_pos hlen]
        · rw [if_neg hd, Option.bind_some, if_pos rfl, if_pos hlen]
      have hx : ∀ can, vote_Next.f (k + 3 + 1) s (rd xs i) can = some (nx s (rd xs i) can) := fun can => next_is (k + 1) s (rd xs i) can
      rw [hx, Option.bind_some, hx, Option.bind_some, step, step]
      split <;> rfl
    · rw [if_neg h]; exact he
theorem VoteStays_pure (xs : List Int) (cs : List Bool) : ∃ k, wharfingerlaw12_VoteStays.f k xs cs = some true :=
  ⟨1000, by unfold wharfingerlaw12_VoteStays.f; exact stays_loop cs xs 200 1000 0 0 [] (by omega) (by omega) (by omega) rfl rfl rfl rfl⟩
end Go.Proofs.Ytnchlddbcomokab.Hh

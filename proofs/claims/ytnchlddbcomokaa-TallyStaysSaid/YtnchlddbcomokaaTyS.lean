/- Say, whatever is said; that the program's tally and the document's go together; how a slice of calls lies in memory. -/
import Derived.Test.YtnchlddbcomokaaTyR
import Derived.Deep.Slices
import Derived.Deep.Fields
import Derived.ChangeSame
namespace Go.Proofs.Ytnchlddbcomokaa.Ty
open Go.RowKit Go.Proofs.YtnchlddbcomokaaW.PrintWords Go.Proofs.YtnchlddbcomokaaW.PrintLast Go.Proofs.YtnchlddbcomokaaW.PrintMore
set_option linter.unusedVariables false
set_option linter.unusedSimpArgs false

/-- What Say answers, and what it leaves. -/
def sayF (xs : List Int) (d o : Bool) (i : Int) (b : Bool) : Bool × List Int × Bool × Bool :=
  if 0 ≤ i ∧ i < (xs.length : Int) ∧ d = false ∧ (xs.getD i.toNat 0 = 0 ∨ xs.getD i.toNat 0 = word b) then
    (if b = true then (true, xs.set i.toNat 1, decide (wt (xs.set i.toNat 1) 0 = []), if wt (xs.set i.toNat 1) 0 = [] then true else o) else (true, xs.set i.toNat 2, true, o))
  else (false, xs, d, o)
def SayAt (w : World) (bt bs : Nat) (r : Bool × List Int × Bool × Bool) (e : Ending) (w' : World) : Prop := e = .returned (.bool r.1) ∧ Tal w' bt bs r.2.1 r.2.2.1 r.2.2.2 ∧ Fr (fun k => k = bt ∨ k = bs) w w'
theorem say_any (w : World) (bt bs : Nat) (xs : List Int) (d o : Bool) (T : Tal w bt bs xs d o) (i : Int) (b : Bool) :
    Calls Try.prog 26 #[.pointer (some ⟨bt, 0, none⟩), .int .i64 i, .bool b] w (SayAt w bt bs (sayF xs d o i b)) := by
  have no : sayF xs d o i b = (false, xs, d, o) → ∀ (h : Calls Try.prog 26 #[.pointer (some ⟨bt, 0, none⟩), .int .i64 i, .bool b] w fun e w' => e = .returned (.bool false) ∧ w = w'), Calls Try.prog 26 #[.pointer (some ⟨bt, 0, none⟩), .int .i64 i, .bool b] w (SayAt w bt bs (sayF xs d o i b)) := by
    intro e h
    rw [e]
    refine h.mono ?_
    rintro e w' ⟨rfl, rfl⟩
    exact ⟨rfl, T, Fr.refl _ _⟩
  by_cases h0 : i < 0
  · exact no (by unfold sayF; rw [if_neg (by omega)]) (say_low w bt i b h0)
  · by_cases h1 : (xs.length : Int) ≤ i
    · exact no (by unfold sayF; rw [if_neg (by omega)]) (say_high w bt bs xs d o T i b (by omega) h1)
    · cases d with
      | true => exact no (by unfold sayF; rw [if_neg (by simp)]) (say_over w bt bs xs o T i b (by omega) (by omega))
      | false =>
        obtain ⟨j, rfl⟩ := Int.eq_ofNat_of_zero_le (a := i) (by omega)
        have hj : j < xs.length := by omega
        by_cases hs : xs.getD j 0 = 0 ∨ xs.getD j 0 = word b
        · unfold sayF
          rw [if_pos ⟨by omega, by omega, rfl, by rw [Int.toNat_natCast]; exact hs⟩, Int.toNat_natCast]
          cases b with
          | true =>
            rw [if_pos rfl]
            refine (say_yes_ w bt bs xs o T j hj hs).mono ?_
            rintro e w' ⟨rfl, T', f⟩
            exact ⟨rfl, T', f⟩
          | false =>
            rw [if_neg (by simp)]
            refine (say_no_ w bt bs xs o T j hj hs).mono ?_
            rintro e w' ⟨rfl, T', f⟩
            exact ⟨rfl, T', f⟩
        · rw [not_or] at hs
          exact no (by unfold sayF; rw [if_neg (by rw [Int.toNat_natCast]; rintro ⟨_, _, _, h⟩; rcases h with h | h; exact hs.1 h; exact hs.2 h)]) (say_said w bt bs xs o T j b hj hs.1 hs.2)

def rsayF (xs : List Int) (c : Bool) (i : Int) (b : Bool) : Bool × List Int :=
  if (ro xs 0 xs.length c).2 = true ∨ i < 0 ∨ (xs.length : Int) ≤ i then (false, xs)
  else if xs.getD i.toNat 0 ≠ 0 then (xs.getD i.toNat 0 == word b, xs) else (true, xs.set i.toNat (word b))
def RSayAt (w : World) (bt bs : Nat) (c : Bool) (r : Bool × List Int) (e : Ending) (w' : World) : Prop := e = .returned (.bool r.1) ∧ Ral w' bt bs r.2 c ∧ Fr (fun k => k = bs) w w'
theorem rsay_any (w : World) (bt bs : Nat) (xs : List Int) (c : Bool) (T : Ral w bt bs xs c) (h3 : In3 xs) (i : Int) (b : Bool) :
    Calls Try.prog 27 #[.pointer (some ⟨bt, 0, none⟩), .int .i64 i, .bool b] w (RSayAt w bt bs c (rsayF xs c i b)) := by
  have no : ∀ r : Bool, rsayF xs c i b = (r, xs) → ∀ (h : Calls Try.prog 27 #[.pointer (some ⟨bt, 0, none⟩), .int .i64 i, .bool b] w fun e w' => e = .returned (.bool r) ∧ Drawn0 w w'), Calls Try.prog 27 #[.pointer (some ⟨bt, 0, none⟩), .int .i64 i, .bool b] w (RSayAt w bt bs c (rsayF xs c i b)) := by
    intro r e h
    rw [e]
    refine h.mono ?_
    rintro e w' ⟨rfl, ⟨nd, rfl⟩⟩
    exact ⟨rfl, T.below (pw_below_drewN (Below.refl _ _) nd), Fr.of_below (pw_below_drewN (Below.refl _ _) nd)⟩
  rcases hov : (ro xs 0 xs.length c).2 with _ | _
  · by_cases hi : i < 0 ∨ (xs.length : Int) ≤ i
    · exact no false (by unfold rsayF; rw [if_pos (.inr hi)]) (rsay_out w bt bs xs c T h3 hov i b (by omega))
    · obtain ⟨j, rfl⟩ := Int.eq_ofNat_of_zero_le (a := i) (by omega)
      have hj : j < xs.length := by omega
      by_cases hs : xs.getD j 0 = 0
      · unfold rsayF
        rw [if_neg (by rw [hov]; simp; omega), Int.toNat_natCast, if_neg (by simpa using hs)]
        refine (rsay_new w bt bs xs c T h3 hov j hj b hs).mono ?_
        rintro e w' ⟨rfl, T', f⟩
        exact ⟨rfl, T', f⟩
      · exact no (xs.getD j 0 == word b) (by unfold rsayF; rw [if_neg (by rw [hov]; simp; omega), Int.toNat_natCast, if_pos hs]) (rsay_said w bt bs xs c T h3 hov j hj b hs)
  · exact no false (by unfold rsayF; rw [if_pos (.inl hov)]) (rsay_over w bt bs xs c T h3 hov i b)

/-! ### They go together -/
theorem ro_two (N : Nat) (c : Bool) : ∀ (l : List Int) (n : Int), (2 : Int) ∈ l → ro l n N c = (false, true)
  | [], _, h => by cases h
  | s :: l, n, h => by
    unfold ro
    by_cases hs : s = 2
    · rw [if_pos hs]
    · rw [if_neg hs]
      rcases List.mem_cons.1 h with h | h
      · exact absurd h.symm hs
      · exact ro_two N c l (n + s) h
theorem ro_one (N : Nat) (c : Bool) : ∀ (l : List Int) (n : Int), (2 : Int) ∉ l → ro l n N c = if n + l.sum = (N : Int) then (true, true) else (false, c)
  | [], n, _ => by simp [ro]
  | s :: l, n, h => by
    rw [List.mem_cons, not_or] at h
    unfold ro
    rw [if_neg (Ne.symm h.1), ro_one N c l (n + s) h.2, List.sum_cons, Int.add_assoc]
theorem sum_le : ∀ (l : List Int), (∀ s ∈ l, s = 0 ∨ s = 1) → l.sum ≤ l.length
  | [], _ => by simp
  | s :: l, h => by
    have := sum_le l (fun t ht => h t (by simp [ht]))
    have := h s (by simp)
    rw [List.sum_cons, List.length_cons]; omega
theorem sum_wt : ∀ (l : List Int) (i : Int), (∀ s ∈ l, s = 0 ∨ s = 1) → (l.sum = (l.length : Int) ↔ wt l i = [])
  | [], _, _ => by simp [wt]
  | s :: l, i, h => by
    have h1 := sum_le l (fun t ht => h t (by simp [ht]))
    have h2 := sum_wt l (i + 1) (fun t ht => h t (by simp [ht]))
    have h3 := h s (by simp)
    rw [List.sum_cons, List.length_cons]
    unfold wt
    by_cases hs : s = 0
    · rw [if_pos hs]; simp; omega
    · rw [if_neg hs, ← h2]; omega
def In3m (xs : List Int) : Prop := ∀ s ∈ xs, s = 0 ∨ s = 1 ∨ s = 2
theorem in3_of {xs : List Int} (h : In3m xs) : In3 xs := by
  intro j hj
  rw [List.getD_eq_getElem?_getD, List.getElem?_eq_getElem hj]
  have := h xs[j] (List.getElem_mem hj)
  simp only [Option.getD_some]
  omega
theorem ro_is (xs : List Int) (c : Bool) (h : In3m xs) : ro xs 0 xs.length c = if (2 : Int) ∈ xs then (false, true) else if wt xs 0 = [] then (true, true) else (false, c) := by
  by_cases h2 : (2 : Int) ∈ xs
  · rw [if_pos h2, ro_two _ _ _ _ h2]
  · have h01 : ∀ s ∈ xs, s = 0 ∨ s = 1 := fun s hs => by
      rcases h s hs with e | e | e
      · exact .inl e
      · exact .inr e
      · exact absurd (e ▸ hs) h2
    rw [if_neg h2, ro_one _ _ _ _ h2, Int.zero_add]
    by_cases hw : wt xs 0 = []
    · rw [if_pos hw, if_pos ((sum_wt xs 0 h01).2 hw)]
    · rw [if_neg hw, if_neg (fun e => hw ((sum_wt xs 0 h01).1 e))]
/-- The program's tally (xs, d, o) and the document's (xs, c) are one. -/
structure J (xs : List Int) (d o c : Bool) : Prop where
  in3 : In3m xs
  out : ro xs 0 xs.length c = (o, d)
theorem wt_zeros (m : Nat) (i : Int) : wt (List.replicate (m + 1) 0) i ≠ [] := by
  rw [List.replicate_succ, wt, if_pos rfl]; simp
theorem J.new (m : Nat) (hm : 1 ≤ m) : J (List.replicate m 0) false false false := by
  have h3 : In3m (List.replicate m 0) := fun s hs => .inl (List.eq_of_mem_replicate hs)
  refine ⟨h3, ?_⟩
  obtain ⟨m, rfl⟩ : ∃ k, m = k + 1 := ⟨m - 1, by omega⟩
  rw [ro_is _ _ h3, if_neg (fun h => by have := List.eq_of_mem_replicate h; omega), if_neg (wt_zeros m 0)]
theorem J.close {xs : List Int} {d o c : Bool} (h : J xs d o c) : J xs true o true := by
  refine ⟨h.in3, ?_⟩
  have e := h.out
  rw [ro_is xs c h.in3] at e
  rw [ro_is xs true h.in3]
  by_cases h2 : (2 : Int) ∈ xs
  · rw [if_pos h2] at e ⊢
    rw [Prod.mk.injEq] at e
    rw [← e.1]
  · rw [if_neg h2] at e ⊢
    by_cases hw : wt xs 0 = []
    · rw [if_pos hw] at e ⊢
      rw [Prod.mk.injEq] at e
      rw [← e.1]
    · rw [if_neg hw] at e ⊢
      rw [Prod.mk.injEq] at e
      rw [← e.1]
theorem in3_set {xs : List Int} (h : In3m xs) (j : Nat) (v : Int) (hv : v = 1 ∨ v = 2) : In3m (xs.set j v) := by
  intro s hs
  rcases List.mem_or_eq_of_mem_set hs with h' | h'
  · exact h s h'
  · omega
theorem set_same (xs : List Int) (j : Nat) (hj : j < xs.length) (v : Int) (h : xs.getD j 0 = v) : xs.set j v = xs := by
  apply List.ext_getElem (by simp)
  intro i h1 h2
  rw [List.getElem_set]
  split
  · rename_i e
    subst e
    rw [← h, List.getD_eq_getElem?_getD, List.getElem?_eq_getElem h2]; rfl
  · rfl
theorem J.say {xs : List Int} {d o c : Bool} (h : J xs d o c) (i : Int) (b : Bool) :
    (sayF xs d o i b).1 = (rsayF xs c i b).1 ∧ (sayF xs d o i b).2.1 = (rsayF xs c i b).2 ∧ J (sayF xs d o i b).2.1 (sayF xs d o i b).2.2.1 (sayF xs d o i b).2.2.2 c := by
  have e := h.out
  have no : sayF xs d o i b = (false, xs, d, o) → rsayF xs c i b = (false, xs) → (sayF xs d o i b).1 = (rsayF xs c i b).1 ∧ (sayF xs d o i b).2.1 = (rsayF xs c i b).2 ∧ J (sayF xs d o i b).2.1 (sayF xs d o i b).2.2.1 (sayF xs d o i b).2.2.2 c := by
    intro e1 e2; rw [e1, e2]; exact ⟨rfl, rfl, h⟩
  cases d with
  | true => exact no (by unfold sayF; rw [if_neg (by simp)]) (by unfold rsayF; rw [if_pos (.inl (by rw [e]))])
  | false =>
    by_cases hi : i < 0 ∨ (xs.length : Int) ≤ i
    · exact no (by unfold sayF; rw [if_neg (by omega)]) (by unfold rsayF; rw [if_pos (.inr hi)])
    · obtain ⟨j, rfl⟩ := Int.eq_ofNat_of_zero_le (a := i) (by omega)
      have hj : j < xs.length := by omega
      have hmem : xs.getD j 0 ∈ xs := by rw [List.getD_eq_getElem?_getD, List.getElem?_eq_getElem hj]; exact List.getElem_mem hj
      rw [ro_is xs c h.in3] at e
      by_cases h2 : (2 : Int) ∈ xs
      · rw [if_pos h2] at e; cases e
      · rw [if_neg h2] at e
        by_cases hw : wt xs 0 = []
        · rw [if_pos hw] at e; cases e
        · rw [if_neg hw, Prod.mk.injEq] at e
          obtain ⟨rfl, rfl⟩ := e
          have hov : (ro xs 0 xs.length false).2 = false := by rw [h.out]
          have hs : xs.getD j 0 = 0 ∨ xs.getD j 0 = 1 := by
            rcases h.in3 _ hmem with h' | h' | h'
            · exact .inl h'
            · exact .inr h'
            · exact absurd (h' ▸ hmem) h2
          have er : rsayF xs false (j : Int) b = if xs.getD j 0 ≠ 0 then (xs.getD j 0 == word b, xs) else (true, xs.set j (word b)) := by
            unfold rsayF; rw [if_neg (by rw [hov]; simp; omega), Int.toNat_natCast]
          have es : sayF xs false false (j : Int) b = if xs.getD j 0 = 0 ∨ xs.getD j 0 = word b then (if b = true then (true, xs.set j 1, decide (wt (xs.set j 1) 0 = []), if wt (xs.set j 1) 0 = [] then true else false) else (true, xs.set j 2, true, false)) else (false, xs, false, false) := by
            unfold sayF
            rw [Int.toNat_natCast]
            by_cases hc : xs.getD j 0 = 0 ∨ xs.getD j 0 = word b
            · rw [if_pos ⟨by omega, by omega, rfl, hc⟩, if_pos hc]
            · rw [if_neg (fun hh => hc hh.2.2.2), if_neg hc]
          have n2 : (2 : Int) ∉ xs.set j 1 := fun hh => by
            rcases List.mem_or_eq_of_mem_set hh with h' | h'
            · exact h2 h'
            · omega
          have y2 : (2 : Int) ∈ xs.set j 2 := List.mem_set hj 2
          rw [er, es]
          rcases hs with hs | hs
          · rw [if_pos (.inl hs), if_neg (show ¬ xs.getD j 0 ≠ 0 from fun hh => hh hs)]
            cases b with
            | true =>
              rw [if_pos rfl]
              refine ⟨rfl, rfl, in3_set h.in3 j 1 (.inl rfl), ?_⟩
              show ro (xs.set j 1) 0 (xs.set j 1).length false = _
              rw [ro_is _ _ (in3_set h.in3 j 1 (.inl rfl)), if_neg n2]
              by_cases hz : wt (xs.set j 1) 0 = []
              · rw [if_pos hz]; simp [hz]
              · rw [if_neg hz]; simp [hz]
            | false =>
              rw [if_neg (by simp)]
              refine ⟨rfl, rfl, in3_set h.in3 j 2 (.inr rfl), ?_⟩
              show ro (xs.set j 2) 0 (xs.set j 2).length false = _
              rw [ro_is _ _ (in3_set h.in3 j 2 (.inr rfl)), if_pos y2]
          · rw [if_pos (show xs.getD j 0 ≠ 0 by omega), hs]
            cases b with
            | true =>
              rw [if_pos (.inr rfl), if_pos rfl, set_same xs j hj 1 hs]
              refine ⟨rfl, rfl, h.in3, ?_⟩
              show ro xs 0 xs.length false = _
              rw [h.out]; simp [hw]
            | false =>
              rw [if_neg (by simp [word])]
              exact ⟨rfl, rfl, h⟩

/-! ### A slice of calls -/
/-- How calls lie in memory: three cells each. -/
def CallsAt (w : World) (a : Option Addr) (len cap : Nat) (cs : List (Bool × Int × Bool)) : Prop :=
  cs.length = len ∧ len ≤ cap ∧ cap ≤ maxLen ∧ (∀ c ∈ cs, -9223372036854775808 ≤ c.2.1 ∧ c.2.1 ≤ 9223372036854775807) ∧
    (0 < len → ∃ ad, a = some ad ∧ ∀ i (h : i < cs.length), w.cell? (ad.add (i * 3)) = some (.bool cs[i].1) ∧ w.cell? (ad.add (i * 3 + 1)) = some (.int .i64 cs[i].2.1) ∧ w.cell? (ad.add (i * 3 + 2)) = some (.bool cs[i].2.2))
end Go.Proofs.Ytnchlddbcomokaa.Ty

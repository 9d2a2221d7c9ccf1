/- The plain statements of PeersAgree, PeersFewer, PeersOne. -/
import Derived.Test.YtnchlddbcomokabSf
import Derived.Test.YtnchlddbcomokabHx7
import Derived.Test.YtnchlddbcomokabHx8
namespace Go.Proofs.Ytnchlddbcomokab.Hh
open Go.RowKit Go.Proofs.YtnchlddbcomokabW.PrintWords Go.Proofs.YtnchlddbcomokabW.PrintLast
set_option linter.unusedSimpArgs false

theorem tl13 (s : Int) : (tl s = 13) ↔ isC s = true := by
  unfold tl isC
  by_cases h2 : s = 2
  · simp [h2]
  · rw [if_neg h2]; simp [h2]; split <;> omega
theorem tl14 (s : Int) : (tl s = 14) ↔ isA s = true := by
  unfold tl isA
  by_cases h2 : s = 2
  · simp [h2]
  · rw [if_neg h2]; simp; omega
theorem fst0_val : ∀ (l : List Int), (l.any isC && l.any isA) = false → fst0 l = if l.any isC = true then 13 else if l.any isA = true then 14 else 0
  | [], _ => rfl
  | s :: l, h => by
    rw [List.any_cons, List.any_cons] at h ⊢
    have hr : (l.any isC && l.any isA) = false := by
      revert h; cases l.any isC <;> cases l.any isA <;> simp
    have ih := fst0_val l hr
    unfold fst0
    rcases tl_cases s with ht | ht | ht
    · have hc := (tl13 s).1 ht
      rw [if_pos (by omega), hc, ht]; simp
    · have ha := (tl14 s).1 ht
      have hc : isC s = false := by
        rcases hb : isC s with _ | _
        · rfl
        · have := (tl13 s).2 hb; omega
      rw [ha, hc] at h ⊢
      have hl : l.any isC = false := by revert h; cases l.any isC <;> simp
      rw [if_pos (by omega), ht, hl]; simp
    · have hc : isC s = false := by
        rcases hb : isC s with _ | _
        · rfl
        · have := (tl13 s).2 hb; omega
      have ha : isA s = false := by
        rcases hb : isA s with _ | _
        · rfl
        · have := (tl14 s).2 hb; omega
      rw [if_neg (by omega), ih, hc, ha]; simp
theorem safe_not (l : List Int) (h : safe l = true) : (l.any isC && l.any isA) = false := by
  unfold safe at h
  revert h; cases l.any isC <;> cases l.any isA <;> simp
theorem safe_append (a b : List Int) : safe (a ++ b) = ((a.all mayS && b.all mayS) && (!(a.any isC || b.any isC) || !(a.any isA || b.any isA))) := by
  unfold safe; rw [List.all_append, List.any_append, List.any_append]
theorem safe_swap (a b : List Int) : safe (b ++ a) = safe (a ++ b) := by
  rw [safe_append, safe_append, Bool.and_comm (b.all mayS), Bool.or_comm (b.any isC), Bool.or_comm (b.any isA)]
theorem fst0_swap (a b : List Int) (h : safe (a ++ b) = true) : fst0 (b ++ a) = fst0 (a ++ b) := by
  have h1 := safe_not _ h
  have h2 := safe_not (b ++ a) (by rw [safe_swap]; exact h)
  rw [fst0_val _ h1, fst0_val _ h2, List.any_append, List.any_append, List.any_append, List.any_append, Bool.or_comm (b.any isC), Bool.or_comm (b.any isA)]

theorem place (a n : Int) (h0 : 1 ≤ n) (h1 : n ≤ 1000) : (wrap64 (Int.tmod (IntKind.u64.wrap a) (IntKind.u64.wrap (wrap64 n)))) = (a % 18446744073709551616) % n := by
  have e : ∀ m : Int, IntKind.u64.wrap m = m % 18446744073709551616 := fun m => by simp [IntKind.wrap, IntKind.bits, IntKind.signed]
  rw [e, e, wrap_id (n := n) (by omega) (by omega), Int.emod_eq_of_lt (a := n) (by omega) (by omega), Int.tmod_eq_emod_of_nonneg (by omega)]
  have h2 := Int.emod_nonneg (a % 18446744073709551616) (b := n) (by omega)
  have h3 := Int.emod_lt_of_pos (a % 18446744073709551616) (b := n) (by omega)
  exact wrap_id (by omega) (by omega)
theorem no_zero (n : Int) (h0 : 1 ≤ n) (h1 : n ≤ 1000) : ¬ (IntKind.u64.wrap (wrap64 n)) = 0 := by
  have e : ∀ m : Int, IntKind.u64.wrap m = m % 18446744073709551616 := fun m => by simp [IntKind.wrap, IntKind.bits, IntKind.signed]
  rw [e, wrap_id (by omega) (by omega)]; omega
theorem place_nat (a : Int) (n : Nat) (h1 : n ≤ 60) : ∃ j : Nat, j ≤ n ∧ (wrap64 (Int.tmod (IntKind.u64.wrap a) (IntKind.u64.wrap (wrap64 ((n : Int) + 1))))) = (j : Int) := by
  rw [place a ((n : Int) + 1) (by omega) (by omega)]
  have h2 := Int.emod_nonneg (a % 18446744073709551616) (b := (n : Int) + 1) (by omega)
  have h3 := Int.emod_lt_of_pos (a % 18446744073709551616) (b := (n : Int) + 1) (by omega)
  obtain ⟨j, hj⟩ := Int.eq_ofNat_of_zero_le h2
  exact ⟨j, by omega, hj⟩

theorem agree_loop (l : List Int) (a : Int) (xs : List Int) (hx : xs.length ≤ 60) (d : Nat) : ∀ (k i c n : Nat), i ≤ xs.length → xs.length - i = d → c ≤ i → n ≤ i →
      wharfingerlaw14_PeersAgree.l0 (k + 3 + d + 1) l a (c : Int) (n : Int) xs (xs.length : Int) (i : Int) = wharfingerlaw14_PeersAgree.l0 (k + 3 + 1) l a ((c + (xs.drop i).countP isC : Nat) : Int) ((n + (xs.drop i).countP isA : Nat) : Int) xs (xs.length : Int) (xs.length : Int) := by
  induction d with
  | zero =>
    intro k i c n hi hd hc hn
    have hi' : i = xs.length := by omega
    subst hi'
    simp
  | succ d ih =>
    intro k i c n hi hd hc hn
    have hlt : i < xs.length := by omega
    rw [show k + 3 + (d + 1) + 1 = (k + 3 + d + 1) + 1 from by omega, wharfingerlaw14_PeersAgree.l0, if_pos (by omega), if_pos (by omega), if_pos (by omega), show k + 3 + d + 1 = (k + d + 1) + 3 from by omega, peerTells_is, Option.bind_some, show (k + d + 1) + 3 = k + 3 + d + 1 from by omega,
      wrap_succ i xs.length hlt (by omega), drop_at xs i hlt, List.countP_cons, List.countP_cons]
    have hwc : wrap64 ((c : Int) + 1) = ((c + 1 : Nat) : Int) := by rw [wrap_id (by omega) (by omega)]; omega
    have hwn : wrap64 ((n : Int) + 1) = ((n + 1 : Nat) : Int) := by rw [wrap_id (by omega) (by omega)]; omega
    rw [hwc, hwn, ih k (i + 1) (c + 1) n (by omega) (by omega) (by omega) (by omega), ih k (i + 1) c (n + 1) (by omega) (by omega) (by omega) (by omega), ih k (i + 1) c n (by omega) (by omega) (by omega) (by omega)]
    generalize rd xs (i : Int) = s
    generalize (xs.drop (i + 1)).countP isC = A
    generalize (xs.drop (i + 1)).countP isA = B
    rw [show c + 1 + A = c + (A + 1) from by omega, show n + 1 + B = n + (B + 1) from by omega]
    rcases tl_cases s with ht | ht | ht
    · have hc' := (tl13 s).1 ht
      have ha : isA s = false := by
        rcases hb : isA s with _ | _
        · rfl
        · have := (tl14 s).2 hb; omega
      rw [ht, hc', ha, if_pos rfl]; simp
    · have ha := (tl14 s).1 ht
      have hc' : isC s = false := by
        rcases hb : isC s with _ | _
        · rfl
        · have := (tl13 s).2 hb; omega
      rw [ht, ha, hc', if_neg (by omega), if_pos rfl]; simp
    · have hc' : isC s = false := by
        rcases hb : isC s with _ | _
        · rfl
        · have := (tl13 s).2 hb; omega
      have ha : isA s = false := by
        rcases hb : isA s with _ | _
        · rfl
        · have := (tl14 s).2 hb; omega
      rw [ht, hc', ha, if_neg (by omega), if_neg (by omega)]; simp
theorem count_any (f : Int → Bool) (l : List Int) : decide (0 < l.countP f) = l.any f := by
  rw [Bool.eq_iff_iff]
  simp [List.countP_pos_iff]
theorem agree_j2 (l : List Int) (hl : l.length ≤ 60) (hs : safe l = true) (a : Int) (k : Nat) (hk : l.length < k) :
    wharfingerlaw14_PeersAgree.j2 (k + 3 + 1) l a (l.countP isC : Int) (l.countP isA : Int) false = some true := by
  obtain ⟨j, hj, ej⟩ := place_nat a l.length hl
  rw [wharfingerlaw14_PeersAgree.j2, if_neg (by simp), if_neg (no_zero _ (by omega) (by omega)), Option.bind_some, ej, if_pos (by omega), if_pos (by omega), Int.toNat_natCast]
  have h1 : (l.drop j).length = l.length - j := List.length_drop
  have h2 : (l.take j).length = j := by rw [List.length_take]; omega
  have hlist : ([] : List Int) ++ l.drop j = l.drop j := rfl
  rw [if_pos (by rw [List.length_nil]; omega), Option.bind_some, hlist, if_pos (by omega), Option.bind_some, decide_is, Option.bind_some, decide_is, Option.bind_some]
  have hsw : safe (l.take j ++ l.drop j) = true := by rw [List.take_append_drop]; exact hs
  have hf := fst0_swap (l.take j) (l.drop j) hsw
  rw [List.take_append_drop] at hf
  have hv := fst0_val l (safe_not l hs)
  rw [hf, if_pos rfl]
  have c1 : ((fst0 l == 13) == decide ((l.countP isC : Int) > 0)) = true := by
    have e : decide ((l.countP isC : Int) > 0) = l.any isC := by rw [← count_any]; congr 1; simp
    rw [e, hv]
    rcases l.any isC with _ | _
    · rcases l.any isA with _ | _ <;> rfl
    · rfl
  have c2 : ((fst0 l == 14) == decide ((l.countP isA : Int) > 0)) = true := by
    have e : decide ((l.countP isA : Int) > 0) = l.any isA := by rw [← count_any]; congr 1; simp
    have hn := safe_not l hs
    rw [e, hv]
    rcases h1 : l.any isC with _ | _
    · rcases l.any isA with _ | _ <;> rfl
    · rw [h1] at hn; simp at hn; rw [h1] at *; rw [show l.any isA = false from by simpa using hn]; rfl
  rw [if_pos c1, if_pos c2, psafe_is _ (by rw [List.length_append, h1, h2]; omega) _ (by rw [List.length_append, h1, h2]; omega), Option.bind_some, safe_swap, hsw, if_pos rfl, peersAwake]
  rfl
theorem agree_j0 (l : List Int) (a : Int) (b : Bool) (hb : b = false → safe l = true ∧ l.length ≤ 60) : wharfingerlaw14_PeersAgree.j0 ((l.length + 2) + 3 + l.length + 1 + 1) l a b = some true := by
  rw [wharfingerlaw14_PeersAgree.j0]
  cases b with
  | true => rw [if_pos rfl, show l.length + 2 + 3 + l.length + 1 = (l.length + 2 + l.length + 1) + 3 from by omega, peersAwake]; rfl
  | false =>
    obtain ⟨hs, hl⟩ := hb rfl
    have h := agree_loop l a l hl l.length (l.length + 2) 0 0 0 (by omega) (by omega) (by omega) (by omega)
    rw [show ((0 : Nat) : Int) = 0 from rfl] at h
    rw [if_neg (by simp), h, List.drop_zero, Nat.zero_add, Nat.zero_add, wharfingerlaw14_PeersAgree.l0, if_neg (by omega)]
    have hn := safe_not l hs
    have key := agree_j2 l hl hs a (l.length + 1) (by omega)
    rw [show l.length + 1 + 3 + 1 = l.length + 2 + 3 from by omega] at key
    by_cases hc : (l.countP isC : Int) > 0
    · rw [if_pos hc]
      have hA : decide ((l.countP isA : Int) > 0) = false := by
        have e : decide ((l.countP isA : Int) > 0) = l.any isA := by rw [← count_any]; congr 1; simp
        have e2 : l.any isC = true := by rw [← count_any]; simp; simpa using hc
        rw [e]; rw [e2] at hn; simpa using hn
      rw [hA]; exact key
    · rw [if_neg hc]; exact key
theorem PeersAgree_pure : wharfingerlaw14_PeersAgree.Pure := by
  intro l a _ _ _ _
  refine ⟨(l.length + 2) + 3 + l.length + 1 + 1, ?_⟩
  unfold wharfingerlaw14_PeersAgree.f
  by_cases h : (l.length : Int) > 60
  · rw [if_pos h]; exact agree_j0 l a true (fun h => by cases h)
  · rw [if_neg h, psafe_is l (by omega) _ (by omega), Option.bind_some]
    exact agree_j0 l a _ (fun hb => ⟨by simpa using hb, by omega⟩)

theorem fewer_tail (l : List Int) (k : Nat) (hl : l.length ≤ 60) (hk : l.length + 3 < k) :
    ((peers_Safe.f k (l ++ [1, 4, 5])).bind fun t279 => (if (t279 == safe l) = true then ((peers_Safe.f k (l ++ [6])).bind fun t280 => (if t280 = true then (some false) else ((wharfingerlaw14_awake.f k).bind fun t281 => (some t281)))) else (some false))) = some true := by
  obtain ⟨k, rfl⟩ : ∃ m, k = m + 3 := ⟨k - 3, by omega⟩
  have e1 : safe (l ++ [1, 4, 5]) = safe l := by
    rw [safe_append]
    have a1 : ([1, 4, 5] : List Int).all mayS = true := rfl
    have a2 : ([1, 4, 5] : List Int).any isC = false := rfl
    have a3 : ([1, 4, 5] : List Int).any isA = false := rfl
    rw [a1, a2, a3]
    unfold safe; simp
  have e2 : safe (l ++ [6]) = false := by
    rw [safe_append]
    have a1 : ([6] : List Int).all mayS = false := rfl
    rw [a1]; simp
  rw [psafe_is _ (by rw [List.length_append]; simp; omega) _ (by rw [List.length_append]; simp; omega), Option.bind_some, e1, if_pos (by simp), psafe_is _ (by rw [List.length_append]; simp; omega) _ (by rw [List.length_append]; simp; omega), Option.bind_some, e2, if_neg (by simp), peersAwake]
  rfl
theorem safe_part (a b : List Int) (h : safe (a ++ b) = true) : safe a = true ∧ safe b = true := by
  rw [safe_append] at h
  unfold safe
  revert h
  cases a.all mayS <;> cases b.all mayS <;> cases a.any isC <;> cases b.any isC <;> cases a.any isA <;> cases b.any isA <;> simp
theorem PeersFewer_pure : wharfingerlaw14_PeersFewer.Pure := by
  intro l a _ _ _ _
  refine ⟨l.length + 4 + 3, ?_⟩
  unfold wharfingerlaw14_PeersFewer.f
  by_cases h : (l.length : Int) > 60
  · rw [if_pos h, peersAwake]; rfl
  · obtain ⟨j, hj, ej⟩ := place_nat a l.length (by omega)
    have hlist : ([] : List Int) ++ l = l := rfl
    have h3 : (([1, 4, 5] : List Int)).length = 3 := rfl
    have ht := fewer_tail l (l.length + 4 + 3) (by omega) (by omega)
    rw [if_neg h, psafe_is l (by omega) _ (by omega), Option.bind_some, if_neg (no_zero _ (by omega) (by omega)), Option.bind_some, if_pos (by rw [List.length_nil]; omega), Option.bind_some, hlist, Option.bind_some, if_pos (by omega), Option.bind_some, Option.bind_some, if_pos (by rw [List.length_nil]; omega), Option.bind_some, hlist, if_pos (by omega), Option.bind_some, ej]
    by_cases hs : safe l = true
    · have hp := safe_part (l.take j) (l.drop j) (by rw [List.take_append_drop]; exact hs)
      rw [if_pos hs, if_pos (by omega), if_pos (by omega), Int.toNat_natCast, psafe_is _ (by rw [List.length_take]; omega) _ (by rw [List.length_take]; omega), Option.bind_some, hp.1, if_pos rfl, psafe_is _ (by rw [List.length_drop]; omega) _ (by rw [List.length_drop]; omega), Option.bind_some, hp.2, if_pos rfl]
      exact ht
    · rw [if_neg hs]; exact ht
/-- Those that tell nothing. -/
def quiet (s : Int) : Bool := decide (s = 1) || decide (s = 4) || decide (s = 5)
theorem quiet_tl (s : Int) (h : quiet s = true) : tl s = 0 ∧ mayS s = true ∧ isC s = false ∧ isA s = false := by
  unfold quiet at h
  simp at h
  rcases h with (rfl | rfl) | rfl <;> exact ⟨rfl, rfl, rfl, rfl⟩
theorem quiet_fst (x : List Int) : ∀ (l : List Int), (∀ s ∈ l, quiet s = true) → fst0 (l ++ x) = fst0 x
  | [], _ => rfl
  | s :: l, h => by
    rw [List.cons_append, fst0, (quiet_tl s (h s (by simp))).1, if_neg (by omega)]
    exact quiet_fst x l (fun t ht => h t (by simp [ht]))
theorem quiet_safe (l : List Int) (h : ∀ s ∈ l, quiet s = true) : safe l = true := by
  have h1 : l.all mayS = true := List.all_eq_true.2 fun s hs => (quiet_tl s (h s hs)).2.1
  have h2 : l.any isC = false := List.any_eq_false.2 fun s hs => by rw [(quiet_tl s (h s hs)).2.2.1]; simp
  unfold safe; rw [h1, h2]; rfl
theorem one_fst (s : Int) : fst0 [s] = tl s := by
  unfold fst0
  split
  · rfl
  · rename_i h
    rcases tl_cases s with h' | h' | h' <;> rw [h'] at h ⊢ <;> first | rfl | omega
theorem pick_quiet (q : Int) : ∃ v, 0 ≤ Int.tmod (IntKind.u64.wrap q) 3 ∧ Int.tmod (IntKind.u64.wrap q) 3 < 3 ∧ rd [1, 4, 5] (Int.tmod (IntKind.u64.wrap q) 3) = v ∧ quiet v = true := by
  have e : IntKind.u64.wrap q = q % 18446744073709551616 := by simp [IntKind.wrap, IntKind.bits, IntKind.signed]
  rw [e, Int.tmod_eq_emod_of_nonneg (by omega)]
  obtain ⟨j, hj⟩ := Int.eq_ofNat_of_zero_le (a := (q % 18446744073709551616) % 3) (by omega)
  have h3 : j < 3 := by omega
  rw [hj]
  obtain rfl | rfl | rfl : j = 0 ∨ j = 1 ∨ j = 2 := by omega
  · exact ⟨1, by omega, by omega, rfl, rfl⟩
  · exact ⟨4, by omega, by omega, rfl, rfl⟩
  · exact ⟨5, by omega, by omega, rfl, rfl⟩
theorem one_loop (a : Int) (xs : List Int) (hx : xs.length ≤ 40) (d : Nat) : ∀ (k i : Nat) (acc : List Int), i ≤ xs.length → xs.length - i = d → d + 50 < k → acc.length ≤ i → (∀ s ∈ acc, quiet s = true) →
      wharfingerlaw14_PeersOne.l0 k a acc xs (xs.length : Int) (i : Int) = some true := by
  induction d with
  | zero =>
    intro k i acc hi hd hk ha hq
    obtain ⟨k, rfl⟩ : ∃ m, k = (m + 3) + 1 := ⟨k - 4, by omega⟩
    rw [wharfingerlaw14_PeersOne.l0, if_neg (by omega), decide_is, Option.bind_some]
    have e0 : fst0 acc = 0 := by have := quiet_fst [] acc hq; rw [List.append_nil] at this; exact this
    have hlist : ([] : List Int) ++ acc = acc := rfl
    rw [e0, if_pos rfl, Option.bind_some, if_pos (by rw [List.length_nil]; omega), Option.bind_some, hlist, if_pos (by omega), decide_is, Option.bind_some, peerTells_is, Option.bind_some, quiet_fst [a] acc hq, one_fst, if_pos rfl, decide_is, Option.bind_some, one_fst, Option.bind_some, if_pos rfl, psafe_is _ (by omega) _ (by omega), Option.bind_some, quiet_safe acc hq, if_pos rfl, peersAwake]
    rfl
  | succ d ih =>
    intro k i acc hi hd hk ha hq
    obtain ⟨k, rfl⟩ : ∃ m, k = m + 1 := ⟨k - 1, by omega⟩
    have hlt : i < xs.length := by omega
    obtain ⟨v, h0, h1, hv, hqv⟩ := pick_quiet (rd xs (i : Int))
    rw [wharfingerlaw14_PeersOne.l0, if_pos (by omega), if_pos (by omega), if_pos (by omega), Option.bind_some, if_pos h0, if_pos (by exact h1), if_pos (by omega), wrap_succ i xs.length hlt (by omega), hv]
    exact ih k (i + 1) _ (by omega) (by omega) (by omega) (by simp; omega) (by
      intro s hs
      rcases List.mem_append.1 hs with h | h
      · exact hq s h
      · rw [List.mem_singleton.1 h]; exact hqv)
theorem PeersOne_pure : wharfingerlaw14_PeersOne.Pure := by
  intro a l _ _ _ _
  refine ⟨l.length + 60 + 3, ?_⟩
  unfold wharfingerlaw14_PeersOne.f
  by_cases h : (l.length : Int) > 40
  · rw [if_pos h, peersAwake]; rfl
  · rw [if_neg h]
    exact one_loop a l (by omega) l.length _ 0 [] (by omega) (by omega) (by omega) (by simp) (by simp)
end Go.Proofs.Ytnchlddbcomokab.Hh

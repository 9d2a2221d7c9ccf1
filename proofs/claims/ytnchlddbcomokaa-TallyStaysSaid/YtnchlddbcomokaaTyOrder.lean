/- TallyOrder: in whatever order they say so, all yes is for it and one no is against it, and who has not spoken is waited for. -/
import Derived.Test.YtnchlddbcomokaaTyS
import Derived.Test.YtnchlddbcomokaaTyNil
namespace Go.Proofs.Ytnchlddbcomokaa.Ty
open Go.RowKit Go.Proofs.YtnchlddbcomokaaW.PrintWords Go.Proofs.YtnchlddbcomokaaW.PrintLast Go.Proofs.YtnchlddbcomokaaW.PrintMore
set_option linter.unusedVariables false
set_option linter.unusedSimpArgs false
theorem rem_ (x k : Int) (h1 : 1 ≤ k) (h2 : k ≤ 100) : ∃ m : Nat, (m : Int) < k ∧ wrap64 ((IntKind.u64.wrap x).tmod k) = (m : Int) := by
  have h0 : 0 ≤ IntKind.u64.wrap x := by
    simp [IntKind.wrap, IntKind.bits, IntKind.signed]
    omega
  generalize IntKind.u64.wrap x = u at *
  obtain ⟨u, rfl⟩ := Int.eq_ofNat_of_zero_le h0
  obtain ⟨k, rfl⟩ := Int.eq_ofNat_of_zero_le (a := k) (by omega)
  have hk : u % k < k := Nat.mod_lt _ (by omega)
  refine ⟨u % k, by exact_mod_cast hk, ?_⟩
  rw [show Int.tmod (u : Int) (k : Int) = ((u % k : Nat) : Int) from rfl]
  simp only [wrap64, IntKind.wrap, IntKind.bits, IntKind.signed]
  omega
theorem wt_set : ∀ (xs : List Int) (j : Nat) (i : Int), j < xs.length → (wt (xs.set j 1) i).length + (if xs.getD j 0 = 0 then 1 else 0) = (wt xs i).length
  | [], _, _, h => by simp at h
  | s :: l, 0, i, _ => by
    rw [List.set_cons_zero, wt, wt, if_neg (by decide)]
    simp only [List.getD_cons_zero]
    by_cases hs : s = 0
    · simp [hs]
    · simp [hs]
  | s :: l, j + 1, i, h => by
    have ih := wt_set l j (i + 1) (by simpa using h)
    rw [List.set_cons_succ, wt, wt]
    simp only [List.getD_cons_succ]
    by_cases hs : s = 0
    · simp only [hs, if_true, List.length_cons]; omega
    · simp only [hs, if_false]; exact ih
theorem getD_set (xs : List Int) (i j : Nat) (v : Int) (h : i < xs.length) : (xs.set i v).getD j 0 = if i = j then v else xs.getD j 0 := by
  rw [List.getD_eq_getElem?_getD, List.getD_eq_getElem?_getD, List.getElem?_set]
  by_cases e : i = j
  · subst e; simp [h]
  · simp [e]
theorem yes_or (b : Bool) : b = true ∨ b = false := by cases b <;> simp
/-- Who has said yes, as the program's own array holds it. -/
def SeenAt (w' : World) (b : Nat) (xs : List Int) : Prop := ∀ j, j < 5 → w'.cell? ⟨b, j, none⟩ = some (.bool (decide (xs.getD j 0 = 1))) ∧ w'.frozen? ⟨b, j, none⟩ = false
/-- What holds ahead of each voice: zs as the array of who was seen holds them, xs as the tally holds them. -/
structure Ord (w w' : World) (b bt bs : Nat) (zs xs : List Int) (d o : Bool) : Prop where
  T : Tal w' bt bs xs d o
  zlen : zs.length = 5
  len : xs.length = 5
  sn : SeenAt w' b zs
  hb : Below w.heap.size w w'
  lt : b < w'.heap.size
  b1 : w.heap.size ≤ bt
  b2 : w.heap.size ≤ bs
  b3 : w.heap.size ≤ b
  n1 : b ≠ bt
  n2 : b ≠ bs
/-- All have said yes or nothing, one at least nothing, and the one who is against it nothing. -/
structure Voices (xs : List Int) (no : Nat) : Prop where
  in01 : ∀ j, xs.getD j 0 = 0 ∨ xs.getD j 0 = 1
  open_ : 1 ≤ (wt xs 0).length
  no_ : xs.getD no 0 = 0
theorem Ord.below {w w1 w2 : World} {b bt bs : Nat} {zs xs : List Int} {d o : Bool} (h : Ord w w1 b bt bs zs xs d o) (k : Below w1.heap.size w1 w2) : Ord w w2 b bt bs zs xs d o :=
  ⟨h.T.below k, h.zlen, h.len, fun j hj => ⟨(cell_of (k.block b h.lt) j).trans (h.sn j hj).1, (frozen_of (k.block b h.lt) j).trans (h.sn j hj).2⟩, h.hb.trans (k.mono h.hb.size), Nat.lt_of_lt_of_le h.lt k.size, h.b1, h.b2, h.b3, h.n1, h.n2⟩
theorem Ord.say {w w1 w2 : World} {b bt bs : Nat} {zs xs ys : List Int} {d o d' o' : Bool} (h : Ord w w1 b bt bs zs xs d o) (T : Tal w2 bt bs ys d' o') (f : Fr (fun k => k = bt ∨ k = bs) w1 w2) (l : ys.length = 5) : Ord w w2 b bt bs zs ys d' o' := by
  have hn : ¬ (b = bt ∨ b = bs) := fun e => e.elim h.n1 h.n2
  exact ⟨T, h.zlen, l, fun j hj => ⟨(cell_of (f.block b h.lt hn) j).trans (h.sn j hj).1, (frozen_of (f.block b h.lt hn) j).trans (h.sn j hj).2⟩, f.below h.hb (fun k hk => by rcases hk with rfl | rfl; exact h.b1; exact h.b2) h.hb.size, Nat.lt_of_lt_of_le h.lt f.size, h.b1, h.b2, h.b3, h.n1, h.n2⟩
theorem Ord.mark {w w1 : World} {b bt bs : Nat} {zs xs : List Int} {d o : Bool} (h : Ord w w1 b bt bs zs xs d o) (m : Nat) (hm : m < 5) : Ord w (w1.setCell ⟨b, m, none⟩ (.bool true)) b bt bs (zs.set m 1) xs d o := by
  have f : Fr (fun k => k = b) w1 (w1.setCell ⟨b, m, none⟩ (.bool true)) := (Fr.refl _ w1).set (by rfl) _
  refine ⟨h.T.keep f (fun e => h.n1 e.symm) (fun e => h.n2 e.symm), by rw [List.length_set]; exact h.zlen, h.len, fun j hj => ⟨?_, by rw [World.frozen?_setCell]; exact (h.sn j hj).2⟩, h.hb.setCell h.b3 _, by rw [size_set]; exact h.lt, h.b1, h.b2, h.b3, h.n1, h.n2⟩
  rw [getD_set zs m j 1 (by rw [h.zlen]; exact hm)]
  by_cases e : m = j
  · subst e
    rw [if_pos rfl]
    exact World.cell?_setCell_same _ _ _ (h.sn m hm).1
  · rw [if_neg e]
    exact (World.cell?_setCell_other _ _ _ _ (by simp [Ne.symm e])).trans (h.sn j hj).1
theorem Ord.new {w w1 : World} {bt bs : Nat} (h1 : w.heap.size ≤ bt) (h2 : w.heap.size ≤ bs) (T : Tal w1 bt bs (List.replicate (most 5) 0) false false) (hb : Below w.heap.size w w1) : Ord w (w1.alloc (.cells #[.bool false, .bool false, .bool false, .bool false, .bool false] 48)) w1.heap.size bt bs [0, 0, 0, 0, 0] [0, 0, 0, 0, 0] false false := by
  have T' : Tal w1 bt bs [0, 0, 0, 0, 0] false false := T
  refine ⟨T'.below (below_alloc (Below.refl _ _) _), rfl, rfl, ?_, hb.trans ((below_alloc (Below.refl w1.heap.size w1) _).mono hb.size), ?_, h1, h2, hb.size, ?_, ?_⟩
  · intro j hj
    rcases (show j = 0 ∨ j = 1 ∨ j = 2 ∨ j = 3 ∨ j = 4 by omega) with rfl | rfl | rfl | rfl | rfl <;> exact ⟨by go_simp, by go_simp⟩
  · go_simp
  · have := T.it; omega
  · have := T.is_; omega
theorem Voices.new (no : Nat) : Voices [0, 0, 0, 0, 0] no := by
  have h : ∀ j, ([0, 0, 0, 0, 0] : List Int).getD j 0 = 0 := by
    intro j
    match j with
    | 0 | 1 | 2 | 3 | 4 => rfl
    | j + 5 => rfl
  exact ⟨fun j => .inl (h j), by decide, h no⟩
theorem Voices.yes {xs : List Int} {no : Nat} (h : Voices xs no) (m : Nat) (hm : m < xs.length) (hn : m ≠ no) (ho : 1 ≤ (wt (xs.set m 1) 0).length) : Voices (xs.set m 1) no := by
  refine ⟨fun j => ?_, ho, ?_⟩
  · rw [getD_set xs m j 1 hm]
    by_cases e : m = j
    · rw [if_pos e]; exact .inr rfl
    · rw [if_neg e]; exact h.in01 j
  · rw [getD_set xs m no 1 hm, if_neg hn]; exact h.no_
set_option maxHeartbeats 60000000 in
set_option maxRecDepth 100000 in
theorem order_law (A0 : Option Addr) (c0 : Nat) (l0 : List Int) (no : Int) (w : World) (hr0 : Kd.C (Kd.int .i64) w A0 l0.length l0) (hc0 : l0.length ≤ c0) (hno : (Lit.int .i64 no).wf = true) :
    Calls Try.prog 12 #[.slice A0 l0.length c0, .int .i64 no] w fun e w' => e = .returned (.bool true) ∧ Below w.heap.size w w' := by
  have hm := (Kd.reads_of_C (enc := Value.int .i64) (d := (0 : Int)) (h1 := fun _ => rfl) hr0).2.1
  have HR0 := Aside0.mk hr0
  clear hr0 hc0
  go_enter Try.func12, Try.ntmps12
  go_wp2_with (fail)
  refine (new_ 5 _ (by omega) (by omega)).mono ?_
  rintro e w1 ⟨bt, bs, rfl, h1, h2, T0, hb1⟩
  obtain ⟨nn, hn8, en⟩ := rem_ no 8 (by omega) (by omega)
  have H0 := Aside0.mk (Ord.new h1 h2 T0 hb1)
  clear h1 h2 T0 hb1
  go_wp2
  rw [en]
  generalize w1.heap.size = b at *
  go_loopg [8, 9, 10, 11, 12, 13, 25] l0.length (fun gq v8 v9 v10 v11 v12 v13 v25 w' => ∃ (n : Nat) (xs : List Int), v25 = .int .i64 (n : Int) ∧ n ≤ l0.length ∧ v8 = .int .i64 (5 - ((wt xs 0).length : Int)) ∧ Aside0 (gq + n = l0.length) ∧ Aside0 (Ord w w' b bt bs xs xs false false) ∧ Aside0 (Voices xs nn))
  case atStart => exact ⟨0, _, rfl, Nat.zero_le _, rfl, ⟨by simp⟩, H0, ⟨Voices.new nn⟩⟩
  case round =>
    clear H0
    rename_i w2
    obtain ⟨n, xs, rfl, hn, rfl, HG, HM, HV⟩ := hrel
    have hL1 := HV.out.open_
    have hL5 := wt_length xs 0
    rw [HM.out.len] at hL5
    by_cases hlt : n < l0.length
    · obtain ⟨ad1, e1, hx1⟩ := Kd.at_int HR0.out (n : Int) (by omega) (by omega)
      cases e1
      replace hx1 := (HM.out.hb.cell (World.block_lt_of_cell? w _ hx1)).trans hx1
      rw [Int.toNat_natCast] at hx1
      generalize rd l0 (n : Int) = s at *
      by_cases h60 : 60 ≤ n
      · go_wp2_with (fail)
        refine (close_ _ bt bs xs false false (by exact HM.out.T)).mono ?_
        rintro e w4 ⟨rfl, T4, f4⟩
        have H4 := Aside0.mk (HM.out.say T4 (f4.mono (fun k hk => .inl hk)) HM.out.len)
        clear T4 f4
        go_wp2_with (fail)
        refine (outcome_ _ bt bs xs true false (by exact (H4.out.below (by repeat (first | (with_reducible first | exact Below.refl _ _ | apply pw_below_drewN) | exact Below.refl _ _))).T)).mono ?_
        rintro e w6 ⟨rfl, ⟨nd1, rfl⟩⟩
        go_wp2_with (go_at_call 33; (with_reducible refine (awake_ _).mono ?_); rintro e w7 ⟨rfl, hb⟩; have HB2 := Aside0.mk hb; clear hb)
        go_ret
        exact ⟨rfl, (H4.out.below (by repeat (first | (with_reducible first | exact Below.refl _ _ | apply pw_below_drewN) | exact Below.refl _ _))).hb.trans (HB2.out.mono (H4.out.below (by repeat (first | (with_reducible first | exact Below.refl _ _ | apply pw_below_drewN) | exact Below.refl _ _))).hb.size)⟩
      · obtain ⟨m, hm5, em⟩ := rem_ s 5 (by omega) (by omega)
        have hm5' : m < xs.length := by rw [HM.out.len]; omega
        by_cases hmn : m = nn
        · subst hmn
          go_wp2_with (fail)
          generalize wrap64 ((IntKind.u64.wrap s).tmod 5) = y at *
          subst em
          have hxm : xs.getD m 0 = 0 := HV.out.no_
          refine (say_no_ _ bt bs xs false (by exact HM.out.T) m hm5' (.inl hxm)).mono ?_
          rintro e w3 ⟨rfl, T3, f3⟩
          have H3 := Aside0.mk (HM.out.say T3 f3 (by rw [List.length_set]; exact HM.out.len))
          clear T3 f3
          obtain ⟨hc, hf⟩ := H3.out.sn m (by omega)
          rw [hxm] at hc
          simp at hc
          go_wp2_with (fail)
          have H4 := Aside0.mk (H3.out.mark m (by omega))
          clear hc hf
          refine (outcome_ _ bt bs (xs.set m 2) true false (by exact H4.out.T)).mono ?_
          rintro e w6 ⟨rfl, ⟨nd1, rfl⟩⟩
          go_wp2_with (first | (go_at_call 31; (with_reducible refine (waits_over _ bt bs (xs.set m 2) false (by exact (H4.out.below (by repeat (first | (with_reducible first | exact Below.refl _ _ | apply pw_below_drewN) | exact Below.refl _ _))).T)).mono ?_); rintro e w8 ⟨rfl, rfl⟩) | (go_at_call 26; (with_reducible refine (say_over _ bt bs (xs.set m 2) false (by exact (H4.out.below (by repeat (first | (with_reducible first | exact Below.refl _ _ | apply pw_below_drewN) | exact Below.refl _ _))).T) 0 true (by omega) (by rw [H4.out.len]; omega)).mono ?_); rintro e w9 ⟨rfl, rfl⟩) | (go_at_call 33; (with_reducible refine (awake_ _).mono ?_); rintro e w7 ⟨rfl, hb⟩; have HB2 := Aside0.mk hb; clear hb))
          go_ret
          exact ⟨rfl, (H4.out.below (by repeat (first | (with_reducible first | exact Below.refl _ _ | apply pw_below_drewN) | exact Below.refl _ _))).hb.trans (HB2.out.mono (H4.out.below (by repeat (first | (with_reducible first | exact Below.refl _ _ | apply pw_below_drewN) | exact Below.refl _ _))).hb.size)⟩
        · have hq : ((m : Int) != (nn : Int)) = true := by simp; omega
          go_wp2_with (fail)
          generalize wrap64 ((IntKind.u64.wrap s).tmod 5) = y at *
          subst em
          refine (say_yes_ _ bt bs xs false (by exact HM.out.T) m hm5' (HV.out.in01 m)).mono ?_
          rintro e w3 ⟨rfl, T3, f3⟩
          have H3 := Aside0.mk (HM.out.say T3 f3 (by rw [List.length_set]; exact HM.out.len))
          clear T3 f3
          obtain ⟨hc, hf⟩ := H3.out.sn m (by omega)
          have hset := wt_set xs m 0 hm5'
          by_cases hs : xs.getD m 0 = 1
          · rw [hs] at hc
            simp at hc
            have hsame := set_same xs m hm5' 1 hs
            have hz : wt xs 0 ≠ [] := fun e => by rw [e] at hL1; simp at hL1
            rw [hsame, if_neg hz, decide_eq_false hz] at H3
            go_wp2_with (fail)
            refine (outcome_ _ bt bs xs false false (by exact (H3.out.below (by repeat (first | (with_reducible first | exact Below.refl _ _ | apply pw_below_drewN) | exact Below.refl _ _))).T)).mono ?_
            rintro e w6 ⟨rfl, ⟨nd1, rfl⟩⟩
            go_wp2_with (fail)
            refine (waits_open _ bt bs xs false (by exact (H3.out.below (by repeat (first | (with_reducible first | exact Below.refl _ _ | apply pw_below_drewN) | exact Below.refl _ _))).T)).mono ?_
            rintro e w8 ⟨v1, rfl, hR1, hb1⟩
            obtain ⟨Ao1, co1, eo1⟩ := Kd.R_slice hR1
            subst eo1
            have HB8 := Aside0.mk ((H3.out.below (by repeat (first | (with_reducible first | exact Below.refl _ _ | apply pw_below_drewN) | exact Below.refl _ _))).below hb1)
            clear hR1 hb1
            go_wp2
            go_roundg (l0.length - (n + 1))
            case measure => have := HG.out; omega
            case rel => exact ⟨n + 1, xs, by go_num, hlt, rfl, ⟨by omega⟩, ⟨HB8.out.below (by repeat (first | (with_reducible first | exact Below.refl _ _ | apply pw_below_drewN) | exact Below.refl _ _))⟩, HV⟩
          · have hs0 : xs.getD m 0 = 0 := (HV.out.in01 m).resolve_right hs
            rw [hs0] at hc
            rw [if_pos hs0] at hset
            simp at hc
            go_wp2_with (fail)
            have H4 := Aside0.mk (H3.out.mark m (by omega))
            clear hc hf
            by_cases hz : wt (xs.set m 1) 0 = []
            · rw [hz] at hset
              simp only [List.length_nil] at hset
              rw [if_pos hz, decide_eq_true hz] at H4
              have e5 : (5 - ((wt xs 0).length : Int) + 1) = 5 := by omega
              rw [e5]
              refine (outcome_ _ bt bs (xs.set m 1) true true (by exact H4.out.T)).mono ?_
              rintro e w6 ⟨rfl, ⟨nd1, rfl⟩⟩
              go_wp2_with (fail)
              rename_i xo v hv
              obtain rfl := Option.some.inj (show some (Value.bool true) = some v from hv)
              rw [Sem.run_pure]
              go_simp
              go_wp2_with (first | (go_at_call 31; (with_reducible refine (waits_over _ bt bs (xs.set m 1) true (by exact (H4.out.below (by repeat (first | (with_reducible first | exact Below.refl _ _ | apply pw_below_drewN) | exact Below.refl _ _))).T)).mono ?_); rintro e w8 ⟨rfl, rfl⟩) | (go_at_call 26; (with_reducible refine (say_over _ bt bs (xs.set m 1) true (by exact (H4.out.below (by repeat (first | (with_reducible first | exact Below.refl _ _ | apply pw_below_drewN) | exact Below.refl _ _))).T) 0 true (by omega) (by rw [H4.out.len]; omega)).mono ?_); rintro e w9 ⟨rfl, rfl⟩) | (go_at_call 33; (with_reducible refine (awake_ _).mono ?_); rintro e w7 ⟨rfl, hb⟩; have HB2 := Aside0.mk hb; clear hb))
              go_ret
              exact ⟨rfl, (H4.out.below (by repeat (first | (with_reducible first | exact Below.refl _ _ | apply pw_below_drewN) | exact Below.refl _ _))).hb.trans (HB2.out.mono (H4.out.below (by repeat (first | (with_reducible first | exact Below.refl _ _ | apply pw_below_drewN) | exact Below.refl _ _))).hb.size)⟩
            · have hz1 : 1 ≤ (wt (xs.set m 1) 0).length := Nat.pos_of_ne_zero (fun e => hz (List.eq_nil_of_length_eq_zero e))
              rw [if_neg hz, decide_eq_false hz] at H4
              refine (outcome_ _ bt bs (xs.set m 1) false false (by exact H4.out.T)).mono ?_
              rintro e w6 ⟨rfl, ⟨nd1, rfl⟩⟩
              go_wp2_with (fail)
              refine (waits_open _ bt bs (xs.set m 1) false (by exact (H4.out.below (by repeat (first | (with_reducible first | exact Below.refl _ _ | apply pw_below_drewN) | exact Below.refl _ _))).T)).mono ?_
              rintro e w8 ⟨v1, rfl, hR1, hb1⟩
              obtain ⟨Ao1, co1, eo1⟩ := Kd.R_slice hR1
              subst eo1
              have HB8 := Aside0.mk ((H4.out.below (by repeat (first | (with_reducible first | exact Below.refl _ _ | apply pw_below_drewN) | exact Below.refl _ _))).below hb1)
              clear hR1 hb1
              go_wp2
              go_roundg (l0.length - (n + 1))
              case measure => have := HG.out; omega
              case rel => exact ⟨n + 1, xs.set m 1, by go_num, hlt, congrArg (Value.int .i64) (by omega), ⟨by omega⟩, ⟨HB8.out.below (by repeat (first | (with_reducible first | exact Below.refl _ _ | apply pw_below_drewN) | exact Below.refl _ _))⟩, ⟨HV.out.yes m hm5' hmn hz1⟩⟩
    · go_wp2_with (fail)
      refine (close_ _ bt bs xs false false (by exact HM.out.T)).mono ?_
      rintro e w4 ⟨rfl, T4, f4⟩
      have H4 := Aside0.mk (HM.out.say T4 (f4.mono (fun k hk => .inl hk)) HM.out.len)
      clear T4 f4
      go_wp2_with (fail)
      refine (outcome_ _ bt bs xs true false (by exact (H4.out.below (by repeat (first | (with_reducible first | exact Below.refl _ _ | apply pw_below_drewN) | exact Below.refl _ _))).T)).mono ?_
      rintro e w6 ⟨rfl, ⟨nd1, rfl⟩⟩
      go_wp2_with (go_at_call 33; (with_reducible refine (awake_ _).mono ?_); rintro e w7 ⟨rfl, hb⟩; have HB2 := Aside0.mk hb; clear hb)
      go_ret
      exact ⟨rfl, (H4.out.below (by repeat (first | (with_reducible first | exact Below.refl _ _ | apply pw_below_drewN) | exact Below.refl _ _))).hb.trans (HB2.out.mono (H4.out.below (by repeat (first | (with_reducible first | exact Below.refl _ _ | apply pw_below_drewN) | exact Below.refl _ _))).hb.size)⟩
end Go.Proofs.Ytnchlddbcomokaa.Ty

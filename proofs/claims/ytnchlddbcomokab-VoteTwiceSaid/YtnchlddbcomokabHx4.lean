/- Functions of the given program as Lean functions, and that the Go code comes to their answers; written by wip/print_hand.py out of the translation. -/
import Derived.Test.YtnchlddbcomokabHx0
import Derived.Test.YtnchlddbcomokabHx1
import Derived.Test.YtnchlddbcomokabHx3
namespace Go.Proofs.Ytnchlddbcomokab.Hh
open Go.RowKit Go.Proofs.YtnchlddbcomokabW.PrintWords Go.Proofs.YtnchlddbcomokabW.PrintLast Go.Proofs.YtnchlddbcomokabW.PrintMore
attribute [local go_sem] max2_int min2_int max_two min_two max_three min_three max_four min_four   -- for this text's walks alone
set_option linter.unusedVariables false
set_option linter.unusedSimpArgs false

/-! ### wharfingerlaw12_VoteSays: function 5 -/
def wharfingerlaw12_VoteSays.j0 : Nat → Int → Int → Bool → Bool → Int → Bool → Option (Bool)
  | 0, _, _, _, _, _, _ => none
  | k + 1, x7, x8, x9, x10, x23, x35 => if x35 = true then (if x10 = true then (if x9 = true then (some false) else ((wharfingerlaw12_awake.f k).bind fun t164 => (some t164))) else (some false)) else (if x23 = 13 then (if x10 = true then (if x9 = true then ((wharfingerlaw12_awake.f k).bind fun t165 => (some t165)) else (some false)) else (some false)) else (if x23 = 17 then (if x7 = 4 then ((wharfingerlaw12_awake.f k).bind fun t166 => (some t166)) else (if x7 = 5 then ((wharfingerlaw12_awake.f k).bind fun t167 => (some t167)) else (some false))) else (if x23 = 11 then (if x10 = true then ((wharfingerlaw12_awake.f k).bind fun t168 => (some t168)) else (some false)) else (if x8 = 0 then ((wharfingerlaw12_awake.f k).bind fun t169 => (some t169)) else (some false)))))
def wharfingerlaw12_VoteSays.f (k : Nat) (a0 : Int) (a1 : Int) (a2 : Bool) : Option (Bool) := (vote_Next.f k a0 a1 a2).bind fun bt158 => ((vote_Decided.f k bt158.1).bind fun bt160 => (if bt158.2 = 7 then (if bt158.1 = 1 then ((wharfingerlaw12_awake.f k).bind fun t162 => (some t162)) else (if bt158.1 = 4 then ((wharfingerlaw12_awake.f k).bind fun t163 => (some t163)) else (some false))) else (if bt158.2 = 8 then (wharfingerlaw12_VoteSays.j0 k bt158.1 bt158.2 bt160.1 bt160.2 bt158.2 (bt158.2 == 8)) else (wharfingerlaw12_VoteSays.j0 k bt158.1 bt158.2 bt160.1 bt160.2 bt158.2 (bt158.2 == 14)))))
theorem wharfingerlaw12_VoteSays.mono_l : ∀ k, (∀ y0 y1 y2 y3 y4 y5, LeO (wharfingerlaw12_VoteSays.j0 k y0 y1 y2 y3 y4 y5) (wharfingerlaw12_VoteSays.j0 (k + 1) y0 y1 y2 y3 y4 y5))
  | 0 => fun _ _ _ _ _ _ r h => by simp [wharfingerlaw12_VoteSays.j0] at h
  | k + 1 => by
    have ih0 := wharfingerlaw12_VoteSays.mono_l k
    · intro y0 y1 y2 y3 y4 y5
      unfold wharfingerlaw12_VoteSays.j0
      repeat' first
      | (with_reducible exact ih0 _ _ _ _ _ _)
      | (with_reducible exact vote_Decided.mono _ _)
      | (with_reducible exact vote_Next.mono _ _ _ _)
      | (with_reducible exact wharfingerlaw12_awake.mono _)
      | (with_reducible exact LeO.refl _)
      | (with_reducible exact LeO.none _)
      | (with_reducible refine LeO.ite ?_ ?_)
      | (with_reducible refine LeO.bind ?_ (fun _ => ?_))
      | exact ih0 _ _ _ _ _ _
      | exact vote_Decided.mono _ _
      | exact vote_Next.mono _ _ _ _
      | exact wharfingerlaw12_awake.mono _
      | exact LeO.none _
      | refine LeO.ite ?_ ?_
      | refine LeO.bind ?_ (fun _ => ?_)
theorem wharfingerlaw12_VoteSays.mono : ∀ a0 a1 a2 k, LeO (wharfingerlaw12_VoteSays.f k a0 a1 a2) (wharfingerlaw12_VoteSays.f (k + 1) a0 a1 a2) := by
  intro a0 a1 a2 k
  have ih0 := wharfingerlaw12_VoteSays.mono_l k
  unfold wharfingerlaw12_VoteSays.f
  repeat' first
      | (with_reducible exact ih0 _ _ _ _ _ _)
      | (with_reducible exact vote_Decided.mono _ _)
      | (with_reducible exact vote_Next.mono _ _ _ _)
      | (with_reducible exact wharfingerlaw12_awake.mono _)
      | (with_reducible exact LeO.refl _)
      | (with_reducible exact LeO.none _)
      | (with_reducible refine LeO.ite ?_ ?_)
      | (with_reducible refine LeO.bind ?_ (fun _ => ?_))
      | exact ih0 _ _ _ _ _ _
      | exact vote_Decided.mono _ _
      | exact vote_Next.mono _ _ _ _
      | exact wharfingerlaw12_awake.mono _
      | exact LeO.none _
      | refine LeO.ite ?_ ?_
      | refine LeO.bind ?_ (fun _ => ?_)
set_option maxHeartbeats 8000000 in
set_option maxRecDepth 100000 in
theorem wharfingerlaw12_VoteSays.calls (k : Nat) (a0 : Int) (a1 : Int) (a2 : Bool) (r : Bool) (w : World) (h : wharfingerlaw12_VoteSays.f k a0 a1 a2 = some r) :
    Calls Try.prog 5 #[.int .i64 a0, .int .i64 a1, .bool a2] w fun e w' => e = .returned (.bool r) ∧ Drawn0 w w' := by
  have H : ((vote_Next.f k a0 a1 a2).bind fun bt158 => ((vote_Decided.f k bt158.1).bind fun bt160 => (if bt158.2 = 7 then (if bt158.1 = 1 then ((wharfingerlaw12_awake.f k).bind fun t162 => (some t162)) else (if bt158.1 = 4 then ((wharfingerlaw12_awake.f k).bind fun t163 => (some t163)) else (some false))) else (if bt158.2 = 8 then (wharfingerlaw12_VoteSays.j0 k bt158.1 bt158.2 bt160.1 bt160.2 bt158.2 (bt158.2 == 8)) else (wharfingerlaw12_VoteSays.j0 k bt158.1 bt158.2 bt160.1 bt160.2 bt158.2 (bt158.2 == 14)))))) = some r := h
  clear h
  replace H := Option.bind_eq_some_iff.mp H
  obtain ⟨⟨t158, t159⟩, A40, H⟩ := H
  replace H : ((vote_Decided.f k t158).bind fun bt160 => (if t159 = 7 then (if t158 = 1 then ((wharfingerlaw12_awake.f k).bind fun t162 => (some t162)) else (if t158 = 4 then ((wharfingerlaw12_awake.f k).bind fun t163 => (some t163)) else (some false))) else (if t159 = 8 then (wharfingerlaw12_VoteSays.j0 k t158 t159 bt160.1 bt160.2 t159 (t159 == 8)) else (wharfingerlaw12_VoteSays.j0 k t158 t159 bt160.1 bt160.2 t159 (t159 == 14))))) = some r := H
  have A4 := Aside0.mk A40
  clear A40
  replace H := Option.bind_eq_some_iff.mp H
  obtain ⟨⟨t160, t161⟩, A50, H⟩ := H
  replace H : (if t159 = 7 then (if t158 = 1 then ((wharfingerlaw12_awake.f k).bind fun t162 => (some t162)) else (if t158 = 4 then ((wharfingerlaw12_awake.f k).bind fun t163 => (some t163)) else (some false))) else (if t159 = 8 then (wharfingerlaw12_VoteSays.j0 k t158 t159 t160 t161 t159 (t159 == 8)) else (wharfingerlaw12_VoteSays.j0 k t158 t159 t160 t161 t159 (t159 == 14)))) = some r := H
  have A5 := Aside0.mk A50
  clear A50
  by_cases c6 : t159 = 7
  · rw [if_pos c6] at H
    have c6b0 : (t159 == 7) = true := beq_iff_eq.mpr c6
    have c6b1 : (t159 != 7) = false := bne_eq_false_iff_eq.mpr c6
    clear c6
    by_cases c7 : t158 = 1
    · rw [if_pos c7] at H
      have c7b0 : (t158 == 1) = true := beq_iff_eq.mpr c7
      have c7b1 : (t158 != 1) = false := bne_eq_false_iff_eq.mpr c7
      clear c7
      replace H := Option.bind_eq_some_iff.mp H
      obtain ⟨t162, A80, H⟩ := H
      replace H : (some t162) = some r := H
      have A8 := Aside0.mk A80
      clear A80
      obtain rfl := Option.some.inj H
      go_enter Try.func5, Try.ntmps5
      go_wp2_with (first | ((with_reducible refine gate_callee (f := 21) rfl ?_); refine goesL_ (some 15) rfl rfl Try.func21 (by kernel_rfl) rfl #[.int .i64 a0, .int .i64 a1, .bool a2] rfl (by (try simp only [List.map_toArray, List.map_cons, List.map_nil]); first | done | rfl | (simp only [List.length_drop, List.length_take]; rfl)) ?_; (with_reducible refine (vote_Next.calls k a0 a1 a2 t158 t159 _ A4.out).mono ?_); rintro e w' ⟨rfl, ⟨nd, rfl⟩⟩; refine ⟨_, rfl, ?_⟩) | ((with_reducible refine gate_callee (f := 22) rfl ?_); refine goesL_ (some 20) rfl rfl Try.func22 (by kernel_rfl) rfl #[.int .i64 t158] rfl (by (try simp only [List.map_toArray, List.map_cons, List.map_nil]); first | done | rfl | (simp only [List.length_drop, List.length_take]; rfl)) ?_; (with_reducible refine (vote_Decided.calls k t158 t160 t161 _ A5.out).mono ?_); rintro e w' ⟨rfl, ⟨nd, rfl⟩⟩; refine ⟨_, rfl, ?_⟩) | (go_at_call 23; (with_reducible refine (wharfingerlaw12_awake.calls k  t162 _ A8.out).mono ?_); rintro e w' ⟨rfl, ⟨nd, rfl⟩⟩))
      go_ret
      exact ⟨by first | rfl | (simp; done) | (simp [*]; done), by repeat (first | exact Drawn0.refl _ | apply Drawn0.step)⟩
    · rw [if_neg c7] at H
      have c7b0 : (t158 == 1) = false := beq_eq_false_iff_ne.mpr c7
      have c7b1 : (t158 != 1) = true := bne_iff_ne.mpr c7
      by_cases c9 : t158 = 4
      · rw [if_pos c9] at H
        have c9b0 : (t158 == 4) = true := beq_iff_eq.mpr c9
        have c9b1 : (t158 != 4) = false := bne_eq_false_iff_eq.mpr c9
        clear c9
        replace H := Option.bind_eq_some_iff.mp H
        obtain ⟨t163, A100, H⟩ := H
        replace H : (some t163) = some r := H
        have A10 := Aside0.mk A100
        clear A100
        obtain rfl := Option.some.inj H
        go_enter Try.func5, Try.ntmps5
        go_wp2_with (first | ((with_reducible refine gate_callee (f := 21) rfl ?_); refine goesL_ (some 15) rfl rfl Try.func21 (by kernel_rfl) rfl #[.int .i64 a0, .int .i64 a1, .bool a2] rfl (by (try simp only [List.map_toArray, List.map_cons, List.map_nil]); first | done | rfl | (simp only [List.length_drop, List.length_take]; rfl)) ?_; (with_reducible refine (vote_Next.calls k a0 a1 a2 t158 t159 _ A4.out).mono ?_); rintro e w' ⟨rfl, ⟨nd, rfl⟩⟩; refine ⟨_, rfl, ?_⟩) | ((with_reducible refine gate_callee (f := 22) rfl ?_); refine goesL_ (some 20) rfl rfl Try.func22 (by kernel_rfl) rfl #[.int .i64 t158] rfl (by (try simp only [List.map_toArray, List.map_cons, List.map_nil]); first | done | rfl | (simp only [List.length_drop, List.length_take]; rfl)) ?_; (with_reducible refine (vote_Decided.calls k t158 t160 t161 _ A5.out).mono ?_); rintro e w' ⟨rfl, ⟨nd, rfl⟩⟩; refine ⟨_, rfl, ?_⟩) | (go_at_call 23; (with_reducible refine (wharfingerlaw12_awake.calls k  t163 _ A10.out).mono ?_); rintro e w' ⟨rfl, ⟨nd, rfl⟩⟩))
        go_ret
        exact ⟨by first | rfl | (simp; done) | (simp [*]; done), by repeat (first | exact Drawn0.refl _ | apply Drawn0.step)⟩
      · rw [if_neg c9] at H
        have c9b0 : (t158 == 4) = false := beq_eq_false_iff_ne.mpr c9
        have c9b1 : (t158 != 4) = true := bne_iff_ne.mpr c9
        obtain rfl := Option.some.inj H
        go_enter Try.func5, Try.ntmps5
        go_wp2_with (first | ((with_reducible refine gate_callee (f := 21) rfl ?_); refine goesL_ (some 15) rfl rfl Try.func21 (by kernel_rfl) rfl #[.int .i64 a0, .int .i64 a1, .bool a2] rfl (by (try simp only [List.map_toArray, List.map_cons, List.map_nil]); first | done | rfl | (simp only [List.length_drop, List.length_take]; rfl)) ?_; (with_reducible refine (vote_Next.calls k a0 a1 a2 t158 t159 _ A4.out).mono ?_); rintro e w' ⟨rfl, ⟨nd, rfl⟩⟩; refine ⟨_, rfl, ?_⟩) | ((with_reducible refine gate_callee (f := 22) rfl ?_); refine goesL_ (some 20) rfl rfl Try.func22 (by kernel_rfl) rfl #[.int .i64 t158] rfl (by (try simp only [List.map_toArray, List.map_cons, List.map_nil]); first | done | rfl | (simp only [List.length_drop, List.length_take]; rfl)) ?_; (with_reducible refine (vote_Decided.calls k t158 t160 t161 _ A5.out).mono ?_); rintro e w' ⟨rfl, ⟨nd, rfl⟩⟩; refine ⟨_, rfl, ?_⟩))
        go_ret
        exact ⟨by first | rfl | (simp; done) | (simp [*]; done), by repeat (first | exact Drawn0.refl _ | apply Drawn0.step)⟩
  · rw [if_neg c6] at H
    have c6b0 : (t159 == 7) = false := beq_eq_false_iff_ne.mpr c6
    have c6b1 : (t159 != 7) = true := bne_iff_ne.mpr c6
    have HC11 := Aside0.mk H
    clear H
    go_enter Try.func5, Try.ntmps5
    go_upto_if 35 with (first | ((with_reducible refine gate_callee (f := 21) rfl ?_); refine goesL_ (some 15) rfl rfl Try.func21 (by kernel_rfl) rfl #[.int .i64 a0, .int .i64 a1, .bool a2] rfl (by (try simp only [List.map_toArray, List.map_cons, List.map_nil]); first | done | rfl | (simp only [List.length_drop, List.length_take]; rfl)) ?_; (with_reducible refine (vote_Next.calls k a0 a1 a2 t158 t159 _ A4.out).mono ?_); rintro e w' ⟨rfl, ⟨nd, rfl⟩⟩; refine ⟨_, rfl, ?_⟩) | ((with_reducible refine gate_callee (f := 22) rfl ?_); refine goesL_ (some 20) rfl rfl Try.func22 (by kernel_rfl) rfl #[.int .i64 t158] rfl (by (try simp only [List.map_toArray, List.map_cons, List.map_nil]); first | done | rfl | (simp only [List.length_drop, List.length_take]; rfl)) ?_; (with_reducible refine (vote_Decided.calls k t158 t160 t161 _ A5.out).mono ?_); rintro e w' ⟨rfl, ⟨nd, rfl⟩⟩; refine ⟨_, rfl, ?_⟩))
    (try simp only [Act.put, List.setIfInBounds_toArray, List.set_cons_zero, List.set_cons_succ])
    go_cut [35] (fun v35 wc => ∃ (kq : Nat) (x35_10 : Bool), v35 = .bool x35_10 ∧ Aside0 (wharfingerlaw12_VoteSays.j0 kq t158 t159 t160 t161 t159 x35_10 = some r) ∧ Aside0 (kq ≤ k) ∧ Drawn0 w wc)
    case first =>
      have H := HC11.out
      clear HC11
      by_cases c12 : t159 = 8
      · rw [if_pos c12] at H
        have c12b0 : (t159 == 8) = true := beq_iff_eq.mpr c12
        have c12b1 : (t159 != 8) = false := bne_eq_false_iff_eq.mpr c12
        clear c12
        (first | rw [c12b0] | (simp only [i64_w, i32_w]; rw [c12b0]) | skip)
        have H' := Aside0.mk H
        clear H
        go_wp2
        go_meet
        case rel => exact ⟨_, ((t159 == 8)), (by first | rfl | (simp; done) | (simp [*]; done)), H', ⟨by first | omega | exact Nat.le_refl _⟩, by repeat (first | exact Drawn0.refl _ | apply Drawn0.step)⟩
      · rw [if_neg c12] at H
        have c12b0 : (t159 == 8) = false := beq_eq_false_iff_ne.mpr c12
        have c12b1 : (t159 != 8) = true := bne_iff_ne.mpr c12
        (first | rw [c12b0] | (simp only [i64_w, i32_w]; rw [c12b0]) | skip)
        have H' := Aside0.mk H
        clear H
        go_wp2
        go_meet
        case rel => exact ⟨_, ((t159 == 14)), (by first | rfl | (simp; done) | (simp [*]; done)), H', ⟨by first | omega | exact Nat.le_refl _⟩, by repeat (first | exact Drawn0.refl _ | apply Drawn0.step)⟩
    case rest =>
      clear HC11
      try clear c1
      try clear c2
      try clear p2
      try clear c5
      try clear c6
      try clear c6b0
      try clear c6b1
      try clear c7
      try clear c7b0
      try clear c7b1
      try clear c9
      try clear c9b0
      try clear c9b1
      try clear c12
      try clear c12b0
      try clear c12b1
      obtain ⟨kq, x35_10, rfl, HA, HJ10, ⟨mc10, rfl⟩⟩ := hcut
      cases kq with
      | zero => exact absurd HA.out (by simp [wharfingerlaw12_VoteSays.j0])
      | succ kj10 =>
        have H := HA.out
        clear HA
        simp only [wharfingerlaw12_VoteSays.j0] at H
        by_cases c13 : x35_10 = true
        · subst c13
          have H1 : (if t161 = true then (if t160 = true then (some false) else ((wharfingerlaw12_awake.f kj10).bind fun t164 => (some t164))) else (some false)) = some r := by rw [if_pos rfl] at H; exact H
          clear H
          have H := H1
          clear H1
          by_cases c14 : t161 = true
          · subst c14
            have H1 : (if t160 = true then (some false) else ((wharfingerlaw12_awake.f kj10).bind fun t164 => (some t164))) = some r := by rw [if_pos rfl] at H; exact H
            clear H
            have H := H1
            clear H1
            by_cases c15 : t160 = true
            · subst c15
              have H1 : (some false) = some r := by rw [if_pos rfl] at H; exact H
              clear H
              have H := H1
              clear H1
              obtain rfl := Option.some.inj H
              go_wp2
              go_ret
              exact ⟨by first | rfl | (simp; done) | (simp [*]; done), by repeat (first | exact Drawn0.refl _ | apply Drawn0.step)⟩
            · replace c15 := Bool.eq_false_iff.mpr c15
              subst c15
              have H1 : ((wharfingerlaw12_awake.f kj10).bind fun t164 => (some t164)) = some r := by rw [if_neg (show ¬ (false = true) by decide)] at H; exact H
              clear H
              have H := H1
              clear H1
              replace H := Option.bind_eq_some_iff.mp H
              obtain ⟨t164, A160, H⟩ := H
              replace H : (some t164) = some r := H
              have A16 := Aside0.mk A160
              clear A160
              obtain rfl := Option.some.inj H
              go_wp2_with (first | (go_at_call 23; (with_reducible refine (wharfingerlaw12_awake.calls kj10  t164 _ A16.out).mono ?_); rintro e w' ⟨rfl, ⟨nd, rfl⟩⟩))
              go_ret
              exact ⟨by first | rfl | (simp; done) | (simp [*]; done), by repeat (first | exact Drawn0.refl _ | apply Drawn0.step)⟩
          · replace c14 := Bool.eq_false_iff.mpr c14
            subst c14
            have H1 : (some false) = some r := by rw [if_neg (show ¬ (false = true) by decide)] at H; exact H
            clear H
            have H := H1
            clear H1
            obtain rfl := Option.some.inj H
            go_wp2
            go_ret
            exact ⟨by first | rfl | (simp; done) | (simp [*]; done), by repeat (first | exact Drawn0.refl _ | apply Drawn0.step)⟩
        · replace c13 := Bool.eq_false_iff.mpr c13
          subst c13
          have H1 : (if t159 = 13 then (if t161 = true then (if t160 = true then ((wharfingerlaw12_awake.f kj10).bind fun t165 => (some t165)) else (some false)) else (some false)) else (if t159 = 17 then (if t158 = 4 then ((wharfingerlaw12_awake.f kj10).bind fun t166 => (some t166)) else (if t158 = 5 then ((wharfingerlaw12_awake.f kj10).bind fun t167 => (some t167)) else (some false))) else (if t159 = 11 then (if t161 = true then ((wharfingerlaw12_awake.f kj10).bind fun t168 => (some t168)) else (some false)) else (if t159 = 0 then ((wharfingerlaw12_awake.f kj10).bind fun t169 => (some t169)) else (some false))))) = some r := by rw [if_neg (show ¬ (false = true) by decide)] at H; exact H
          clear H
          have H := H1
          clear H1
          by_cases c17 : t159 = 13
          · rw [if_pos c17] at H
            have c17b0 : (t159 == 13) = true := beq_iff_eq.mpr c17
            have c17b1 : (t159 != 13) = false := bne_eq_false_iff_eq.mpr c17
            clear c17
            by_cases c18 : t161 = true
            · subst c18
              have H1 : (if t160 = true then ((wharfingerlaw12_awake.f kj10).bind fun t165 => (some t165)) else (some false)) = some r := by rw [if_pos rfl] at H; exact H
              clear H
              have H := H1
              clear H1
              by_cases c19 : t160 = true
              · subst c19
                have H1 : ((wharfingerlaw12_awake.f kj10).bind fun t165 => (some t165)) = some r := by rw [if_pos rfl] at H; exact H
                clear H
                have H := H1
                clear H1
                replace H := Option.bind_eq_some_iff.mp H
                obtain ⟨t165, A200, H⟩ := H
                replace H : (some t165) = some r := H
                have A20 := Aside0.mk A200
                clear A200
                obtain rfl := Option.some.inj H
                go_wp2_with (first | (go_at_call 23; (with_reducible refine (wharfingerlaw12_awake.calls kj10  t165 _ A20.out).mono ?_); rintro e w' ⟨rfl, ⟨nd, rfl⟩⟩))
                go_ret
                exact ⟨by first | rfl | (simp; done) | (simp [*]; done), by repeat (first | exact Drawn0.refl _ | apply Drawn0.step)⟩
              · replace c19 := Bool.eq_false_iff.mpr c19
                subst c19
                have H1 : (some false) = some r := by rw [if_neg (show ¬ (false = true) by decide)] at H; exact H
                clear H
                have H := H1
                clear H1
                obtain rfl := Option.some.inj H
                go_wp2
                go_ret
                exact ⟨by first | rfl | (simp; done) | (simp [*]; done), by repeat (first | exact Drawn0.refl _ | apply Drawn0.step)⟩
            · replace c18 := Bool.eq_false_iff.mpr c18
              subst c18
              have H1 : (some false) = some r := by rw [if_neg (show ¬ (false = true) by decide)] at H; exact H
              clear H
              have H := H1
              clear H1
              obtain rfl := Option.some.inj H
              go_wp2
              go_ret
              exact ⟨by first | rfl | (simp; done) | (simp [*]; done), by repeat (first | exact Drawn0.refl _ | apply Drawn0.step)⟩
          · rw [if_neg c17] at H
            have c17b0 : (t159 == 13) = false := beq_eq_false_iff_ne.mpr c17
            have c17b1 : (t159 != 13) = true := bne_iff_ne.mpr c17
            by_cases c21 : t159 = 17
            · rw [if_pos c21] at H
              have c21b0 : (t159 == 17) = true := beq_iff_eq.mpr c21
              have c21b1 : (t159 != 17) = false := bne_eq_false_iff_eq.mpr c21
              clear c21
              by_cases c22 : t158 = 4
              · rw [if_pos c22] at H
                have c22b0 : (t158 == 4) = true := beq_iff_eq.mpr c22
                have c22b1 : (t158 != 4) = false := bne_eq_false_iff_eq.mpr c22
                clear c22
                replace H := Option.bind_eq_some_iff.mp H
                obtain ⟨t166, A230, H⟩ := H
                replace H : (some t166) = some r := H
                have A23 := Aside0.mk A230
                clear A230
                obtain rfl := Option.some.inj H
                go_wp2_with (first | (go_at_call 23; (with_reducible refine (wharfingerlaw12_awake.calls kj10  t166 _ A23.out).mono ?_); rintro e w' ⟨rfl, ⟨nd, rfl⟩⟩))
                go_ret
                exact ⟨by first | rfl | (simp; done) | (simp [*]; done), by repeat (first | exact Drawn0.refl _ | apply Drawn0.step)⟩
              · rw [if_neg c22] at H
                have c22b0 : (t158 == 4) = false := beq_eq_false_iff_ne.mpr c22
                have c22b1 : (t158 != 4) = true := bne_iff_ne.mpr c22
                by_cases c24 : t158 = 5
                · rw [if_pos c24] at H
                  have c24b0 : (t158 == 5) = true := beq_iff_eq.mpr c24
                  have c24b1 : (t158 != 5) = false := bne_eq_false_iff_eq.mpr c24
                  clear c24
                  replace H := Option.bind_eq_some_iff.mp H
                  obtain ⟨t167, A250, H⟩ := H
                  replace H : (some t167) = some r := H
                  have A25 := Aside0.mk A250
                  clear A250
                  obtain rfl := Option.some.inj H
                  go_wp2_with (first | (go_at_call 23; (with_reducible refine (wharfingerlaw12_awake.calls kj10  t167 _ A25.out).mono ?_); rintro e w' ⟨rfl, ⟨nd, rfl⟩⟩))
                  go_ret
                  exact ⟨by first | rfl | (simp; done) | (simp [*]; done), by repeat (first | exact Drawn0.refl _ | apply Drawn0.step)⟩
                · rw [if_neg c24] at H
                  have c24b0 : (t158 == 5) = false := beq_eq_false_iff_ne.mpr c24
                  have c24b1 : (t158 != 5) = true := bne_iff_ne.mpr c24
                  obtain rfl := Option.some.inj H
                  go_wp2
                  go_ret
                  exact ⟨by first | rfl | (simp; done) | (simp [*]; done), by repeat (first | exact Drawn0.refl _ | apply Drawn0.step)⟩
            · rw [if_neg c21] at H
              have c21b0 : (t159 == 17) = false := beq_eq_false_iff_ne.mpr c21
              have c21b1 : (t159 != 17) = true := bne_iff_ne.mpr c21
              by_cases c26 : t159 = 11
              · rw [if_pos c26] at H
                have c26b0 : (t159 == 11) = true := beq_iff_eq.mpr c26
                have c26b1 : (t159 != 11) = false := bne_eq_false_iff_eq.mpr c26
                clear c26
                by_cases c27 : t161 = true
                · subst c27
                  have H1 : ((wharfingerlaw12_awake.f kj10).bind fun t168 => (some t168)) = some r := by rw [if_pos rfl] at H; exact H
                  clear H
                  have H := H1
                  clear H1
                  replace H := Option.bind_eq_some_iff.mp H
                  obtain ⟨t168, A280, H⟩ := H
                  replace H : (some t168) = some r := H
                  have A28 := Aside0.mk A280
                  clear A280
                  obtain rfl := Option.some.inj H
                  go_wp2_with (first | (go_at_call 23; (with_reducible refine (wharfingerlaw12_awake.calls kj10  t168 _ A28.out).mono ?_); rintro e w' ⟨rfl, ⟨nd, rfl⟩⟩))
                  go_ret
                  exact ⟨by first | rfl | (simp; done) | (simp [*]; done), by repeat (first | exact Drawn0.refl _ | apply Drawn0.step)⟩
                · replace c27 := Bool.eq_false_iff.mpr c27
                  subst c27
                  have H1 : (some false) = some r := by rw [if_neg (show ¬ (false = true) by decide)] at H; exact H
                  clear H
                  have H := H1
                  clear H1
                  obtain rfl := Option.some.inj H
                  go_wp2
                  go_ret
                  exact ⟨by first | rfl | (simp; done) | (simp [*]; done), by repeat (first | exact Drawn0.refl _ | apply Drawn0.step)⟩
              · rw [if_neg c26] at H
                have c26b0 : (t159 == 11) = false := beq_eq_false_iff_ne.mpr c26
                have c26b1 : (t159 != 11) = true := bne_iff_ne.mpr c26
                by_cases c29 : t159 = 0
                · rw [if_pos c29] at H
                  have c29b0 : (t159 == 0) = true := beq_iff_eq.mpr c29
                  have c29b1 : (t159 != 0) = false := bne_eq_false_iff_eq.mpr c29
                  clear c29
                  replace H := Option.bind_eq_some_iff.mp H
                  obtain ⟨t169, A300, H⟩ := H
                  replace H : (some t169) = some r := H
                  have A30 := Aside0.mk A300
                  clear A300
                  obtain rfl := Option.some.inj H
                  go_wp2_with (first | (go_at_call 23; (with_reducible refine (wharfingerlaw12_awake.calls kj10  t169 _ A30.out).mono ?_); rintro e w' ⟨rfl, ⟨nd, rfl⟩⟩))
                  go_ret
                  exact ⟨by first | rfl | (simp; done) | (simp [*]; done), by repeat (first | exact Drawn0.refl _ | apply Drawn0.step)⟩
                · rw [if_neg c29] at H
                  have c29b0 : (t159 == 0) = false := beq_eq_false_iff_ne.mpr c29
                  have c29b1 : (t159 != 0) = true := bne_iff_ne.mpr c29
                  obtain rfl := Option.some.inj H
                  go_wp2
                  go_ret
                  exact ⟨by first | rfl | (simp; done) | (simp [*]; done), by repeat (first | exact Drawn0.refl _ | apply Drawn0.step)⟩

/-- THE ONE PURE STATEMENT of wharfingerlaw12_VoteSays: yours. -/
def wharfingerlaw12_VoteSays.Pure : Prop := ∀ (a0 : Int) (a1 : Int) (a2 : Bool), (Lit.int .i64 a0).wf = true → (Lit.int .i64 a1).wf = true → ∃ k, wharfingerlaw12_VoteSays.f k a0 a1 a2 = some true
theorem wharfingerlaw12_VoteSays.walk (P : wharfingerlaw12_VoteSays.Pure) (a0 : Int) (a1 : Int) (a2 : Bool) (w : World) (w0 : (Lit.int .i64 a0).wf = true) (w1 : (Lit.int .i64 a1).wf = true) :
    Calls Try.prog 5 #[.int .i64 a0, .int .i64 a1, .bool a2] w fun e w' => e = .returned (.bool true) ∧ Below w.heap.size w w' := by
  obtain ⟨k, h⟩ := P a0 a1 a2 w0 w1
  refine (wharfingerlaw12_VoteSays.calls k a0 a1 a2 true w h).mono ?_
  rintro e w' ⟨rfl, hd⟩
  exact ⟨rfl, hd.below⟩

/-! ### wharfingerlaw12_VoteTwice: function 6 -/
def wharfingerlaw12_VoteTwice.f (k : Nat) (a0 : Int) (a1 : Int) (a2 : Bool) (a3 : Bool) : Option (Bool) := (vote_Next.f k a0 a1 a2).bind fun bt170 => ((vote_Next.f k bt170.1 a1 a3).bind fun bt172 => (if bt170.1 = bt172.1 then (if bt170.2 = bt172.2 then ((wharfingerlaw12_awake.f k).bind fun t174 => (some t174)) else ((vote_May.f a0).bind fun t175 => (if t175 = true then (some false) else ((wharfingerlaw12_awake.f k).bind fun t176 => (some t176))))) else (some false)))
theorem wharfingerlaw12_VoteTwice.mono : ∀ a0 a1 a2 a3 k, LeO (wharfingerlaw12_VoteTwice.f k a0 a1 a2 a3) (wharfingerlaw12_VoteTwice.f (k + 1) a0 a1 a2 a3) := by
  intro a0 a1 a2 a3 k
  unfold wharfingerlaw12_VoteTwice.f
  repeat' first
      | (with_reducible exact vote_Next.mono _ _ _ _)
      | (with_reducible exact wharfingerlaw12_awake.mono _)
      | (with_reducible exact LeO.refl _)
      | (with_reducible exact LeO.none _)
      | (with_reducible refine LeO.ite ?_ ?_)
      | (with_reducible refine LeO.bind ?_ (fun _ => ?_))
      | exact vote_Next.mono _ _ _ _
      | exact wharfingerlaw12_awake.mono _
      | exact LeO.none _
      | refine LeO.ite ?_ ?_
      | refine LeO.bind ?_ (fun _ => ?_)
set_option maxHeartbeats 8000000 in
set_option maxRecDepth 100000 in
theorem wharfingerlaw12_VoteTwice.calls (k : Nat) (a0 : Int) (a1 : Int) (a2 : Bool) (a3 : Bool) (r : Bool) (w : World) (h : wharfingerlaw12_VoteTwice.f k a0 a1 a2 a3 = some r) :
    Calls Try.prog 6 #[.int .i64 a0, .int .i64 a1, .bool a2, .bool a3] w fun e w' => e = .returned (.bool r) ∧ Drawn0 w w' := by
  have H : ((vote_Next.f k a0 a1 a2).bind fun bt170 => ((vote_Next.f k bt170.1 a1 a3).bind fun bt172 => (if bt170.1 = bt172.1 then (if bt170.2 = bt172.2 then ((wharfingerlaw12_awake.f k).bind fun t174 => (some t174)) else ((vote_May.f a0).bind fun t175 => (if t175 = true then (some false) else ((wharfingerlaw12_awake.f k).bind fun t176 => (some t176))))) else (some false)))) = some r := h
  clear h
  replace H := Option.bind_eq_some_iff.mp H
  obtain ⟨⟨t170, t171⟩, A50, H⟩ := H
  replace H : ((vote_Next.f k t170 a1 a3).bind fun bt172 => (if t170 = bt172.1 then (if t171 = bt172.2 then ((wharfingerlaw12_awake.f k).bind fun t174 => (some t174)) else ((vote_May.f a0).bind fun t175 => (if t175 = true then (some false) else ((wharfingerlaw12_awake.f k).bind fun t176 => (some t176))))) else (some false))) = some r := H
  have A5 := Aside0.mk A50
  clear A50
  replace H := Option.bind_eq_some_iff.mp H
  obtain ⟨⟨t172, t173⟩, A60, H⟩ := H
  replace H : (if t170 = t172 then (if t171 = t173 then ((wharfingerlaw12_awake.f k).bind fun t174 => (some t174)) else ((vote_May.f a0).bind fun t175 => (if t175 = true then (some false) else ((wharfingerlaw12_awake.f k).bind fun t176 => (some t176))))) else (some false)) = some r := H
  have A6 := Aside0.mk A60
  clear A60
  by_cases c7 : t170 = t172
  · rw [if_pos c7] at H
    have c7b0 : (t170 == t172) = true := beq_iff_eq.mpr c7
    have c7b1 : (t170 != t172) = false := bne_eq_false_iff_eq.mpr c7
    clear c7
    by_cases c8 : t171 = t173
    · rw [if_pos c8] at H
      have c8b0 : (t171 == t173) = true := beq_iff_eq.mpr c8
      have c8b1 : (t171 != t173) = false := bne_eq_false_iff_eq.mpr c8
      clear c8
      replace H := Option.bind_eq_some_iff.mp H
      obtain ⟨t174, A90, H⟩ := H
      replace H : (some t174) = some r := H
      have A9 := Aside0.mk A90
      clear A90
      obtain rfl := Option.some.inj H
      go_enter Try.func6, Try.ntmps6
      go_wp2_with (first | ((with_reducible refine gate_callee (f := 21) rfl ?_); refine goesL_ (some 17) rfl rfl Try.func21 (by kernel_rfl) rfl #[.int .i64 a0, .int .i64 a1, .bool a2] rfl (by (try simp only [List.map_toArray, List.map_cons, List.map_nil]); first | done | rfl | (simp only [List.length_drop, List.length_take]; rfl)) ?_; (with_reducible refine (vote_Next.calls k a0 a1 a2 t170 t171 _ A5.out).mono ?_); rintro e w' ⟨rfl, ⟨nd, rfl⟩⟩; refine ⟨_, rfl, ?_⟩) | ((with_reducible refine gate_callee (f := 21) rfl ?_); refine goesL_ (some 24) rfl rfl Try.func21 (by kernel_rfl) rfl #[.int .i64 t170, .int .i64 a1, .bool a3] rfl (by (try simp only [List.map_toArray, List.map_cons, List.map_nil]); first | done | rfl | (simp only [List.length_drop, List.length_take]; rfl)) ?_; (with_reducible refine (vote_Next.calls k t170 a1 a3 t172 t173 _ A6.out).mono ?_); rintro e w' ⟨rfl, ⟨nd, rfl⟩⟩; refine ⟨_, rfl, ?_⟩) | (go_at_call 23; (with_reducible refine (wharfingerlaw12_awake.calls k  t174 _ A9.out).mono ?_); rintro e w' ⟨rfl, ⟨nd, rfl⟩⟩))
      go_ret
      exact ⟨by first | rfl | (simp; done) | (simp [*]; done), by repeat (first | exact Drawn0.refl _ | apply Drawn0.step)⟩
    · rw [if_neg c8] at H
      have c8b0 : (t171 == t173) = false := beq_eq_false_iff_ne.mpr c8
      have c8b1 : (t171 != t173) = true := bne_iff_ne.mpr c8
      replace H := Option.bind_eq_some_iff.mp H
      obtain ⟨t175, A100, H⟩ := H
      replace H : (if t175 = true then (some false) else ((wharfingerlaw12_awake.f k).bind fun t176 => (some t176))) = some r := H
      have A10 := Aside0.mk A100
      clear A100
      by_cases c11 : t175 = true
      · subst c11
        have H1 : (some false) = some r := by rw [if_pos rfl] at H; exact H
        clear H
        have H := H1
        clear H1
        obtain rfl := Option.some.inj H
        go_enter Try.func6, Try.ntmps6
        go_wp2_with (first | ((with_reducible refine gate_callee (f := 21) rfl ?_); refine goesL_ (some 17) rfl rfl Try.func21 (by kernel_rfl) rfl #[.int .i64 a0, .int .i64 a1, .bool a2] rfl (by (try simp only [List.map_toArray, List.map_cons, List.map_nil]); first | done | rfl | (simp only [List.length_drop, List.length_take]; rfl)) ?_; (with_reducible refine (vote_Next.calls k a0 a1 a2 t170 t171 _ A5.out).mono ?_); rintro e w' ⟨rfl, ⟨nd, rfl⟩⟩; refine ⟨_, rfl, ?_⟩) | ((with_reducible refine gate_callee (f := 21) rfl ?_); refine goesL_ (some 24) rfl rfl Try.func21 (by kernel_rfl) rfl #[.int .i64 t170, .int .i64 a1, .bool a3] rfl (by (try simp only [List.map_toArray, List.map_cons, List.map_nil]); first | done | rfl | (simp only [List.length_drop, List.length_take]; rfl)) ?_; (with_reducible refine (vote_Next.calls k t170 a1 a3 t172 t173 _ A6.out).mono ?_); rintro e w' ⟨rfl, ⟨nd, rfl⟩⟩; refine ⟨_, rfl, ?_⟩) | (go_at_call 24; (with_reducible refine (vote_May.calls a0 true _ A10.out).mono ?_); rintro e w' ⟨rfl, ⟨nd, rfl⟩⟩))
        go_ret
        exact ⟨by first | rfl | (simp; done) | (simp [*]; done), by repeat (first | exact Drawn0.refl _ | apply Drawn0.step)⟩
      · replace c11 := Bool.eq_false_iff.mpr c11
        subst c11
        have H1 : ((wharfingerlaw12_awake.f k).bind fun t176 => (some t176)) = some r := by rw [if_neg (show ¬ (false = true) by decide)] at H; exact H
        clear H
        have H := H1
        clear H1
        replace H := Option.bind_eq_some_iff.mp H
        obtain ⟨t176, A120, H⟩ := H
        replace H : (some t176) = some r := H
        have A12 := Aside0.mk A120
        clear A120
        obtain rfl := Option.some.inj H
        go_enter Try.func6, Try.ntmps6
        go_wp2_with (first | ((with_reducible refine gate_callee (f := 21) rfl ?_); refine goesL_ (some 17) rfl rfl Try.func21 (by kernel_rfl) rfl #[.int .i64 a0, .int .i64 a1, .bool a2] rfl (by (try simp only [List.map_toArray, List.map_cons, List.map_nil]); first | done | rfl | (simp only [List.length_drop, List.length_take]; rfl)) ?_; (with_reducible refine (vote_Next.calls k a0 a1 a2 t170 t171 _ A5.out).mono ?_); rintro e w' ⟨rfl, ⟨nd, rfl⟩⟩; refine ⟨_, rfl, ?_⟩) | ((with_reducible refine gate_callee (f := 21) rfl ?_); refine goesL_ (some 24) rfl rfl Try.func21 (by kernel_rfl) rfl #[.int .i64 t170, .int .i64 a1, .bool a3] rfl (by (try simp only [List.map_toArray, List.map_cons, List.map_nil]); first | done | rfl | (simp only [List.length_drop, List.length_take]; rfl)) ?_; (with_reducible refine (vote_Next.calls k t170 a1 a3 t172 t173 _ A6.out).mono ?_); rintro e w' ⟨rfl, ⟨nd, rfl⟩⟩; refine ⟨_, rfl, ?_⟩) | (go_at_call 24; (with_reducible refine (vote_May.calls a0 false _ A10.out).mono ?_); rintro e w' ⟨rfl, ⟨nd, rfl⟩⟩) | (go_at_call 23; (with_reducible refine (wharfingerlaw12_awake.calls k  t176 _ A12.out).mono ?_); rintro e w' ⟨rfl, ⟨nd, rfl⟩⟩))
        go_ret
        exact ⟨by first | rfl | (simp; done) | (simp [*]; done), by repeat (first | exact Drawn0.refl _ | apply Drawn0.step)⟩
  · rw [if_neg c7] at H
    have c7b0 : (t170 == t172) = false := beq_eq_false_iff_ne.mpr c7
    have c7b1 : (t170 != t172) = true := bne_iff_ne.mpr c7
    obtain rfl := Option.some.inj H
    go_enter Try.func6, Try.ntmps6
    go_wp2_with (first | ((with_reducible refine gate_callee (f := 21) rfl ?_); refine goesL_ (some 17) rfl rfl Try.func21 (by kernel_rfl) rfl #[.int .i64 a0, .int .i64 a1, .bool a2] rfl (by (try simp only [List.map_toArray, List.map_cons, List.map_nil]); first | done | rfl | (simp only [List.length_drop, List.length_take]; rfl)) ?_; (with_reducible refine (vote_Next.calls k a0 a1 a2 t170 t171 _ A5.out).mono ?_); rintro e w' ⟨rfl, ⟨nd, rfl⟩⟩; refine ⟨_, rfl, ?_⟩) | ((with_reducible refine gate_callee (f := 21) rfl ?_); refine goesL_ (some 24) rfl rfl Try.func21 (by kernel_rfl) rfl #[.int .i64 t170, .int .i64 a1, .bool a3] rfl (by (try simp only [List.map_toArray, List.map_cons, List.map_nil]); first | done | rfl | (simp only [List.length_drop, List.length_take]; rfl)) ?_; (with_reducible refine (vote_Next.calls k t170 a1 a3 t172 t173 _ A6.out).mono ?_); rintro e w' ⟨rfl, ⟨nd, rfl⟩⟩; refine ⟨_, rfl, ?_⟩))
    go_ret
    exact ⟨by first | rfl | (simp; done) | (simp [*]; done), by repeat (first | exact Drawn0.refl _ | apply Drawn0.step)⟩

/-- THE ONE PURE STATEMENT of wharfingerlaw12_VoteTwice: yours. -/
def wharfingerlaw12_VoteTwice.Pure : Prop := ∀ (a0 : Int) (a1 : Int) (a2 : Bool) (a3 : Bool), (Lit.int .i64 a0).wf = true → (Lit.int .i64 a1).wf = true → ∃ k, wharfingerlaw12_VoteTwice.f k a0 a1 a2 a3 = some true
theorem wharfingerlaw12_VoteTwice.walk (P : wharfingerlaw12_VoteTwice.Pure) (a0 : Int) (a1 : Int) (a2 : Bool) (a3 : Bool) (w : World) (w0 : (Lit.int .i64 a0).wf = true) (w1 : (Lit.int .i64 a1).wf = true) :
    Calls Try.prog 6 #[.int .i64 a0, .int .i64 a1, .bool a2, .bool a3] w fun e w' => e = .returned (.bool true) ∧ Below w.heap.size w w' := by
  obtain ⟨k, h⟩ := P a0 a1 a2 a3 w0 w1
  refine (wharfingerlaw12_VoteTwice.calls k a0 a1 a2 a3 true w h).mono ?_
  rintro e w' ⟨rfl, hd⟩
  exact ⟨rfl, hd.below⟩

/-! ### wharfingerlaw12_VoteDecision: function 7 -/
mutual
def wharfingerlaw12_VoteDecision.j0 : Nat → Bool → Bool → Int → Int → Option (Bool)
  | 0, _, _, _, _ => none
  | k + 1, x0, x1, x5, x6 => if x1 = true then (wharfingerlaw12_VoteDecision.j1 k x0 (wrap64 (x5 + 4)) (wrap64 (x6 + 4))) else (wharfingerlaw12_VoteDecision.j1 k x0 x5 x6)
def wharfingerlaw12_VoteDecision.j1 : Nat → Bool → Int → Int → Option (Bool)
  | 0, _, _, _ => none
  | k + 1, x0, x5, x6 => (vote_Next.f k 1 x5 false).bind fun bt177 => ((vote_Decided.f k bt177.1).bind fun bt179 => ((vote_Next.f k bt177.1 x6 false).bind fun bt181 => (if bt177.2 = 11 then (if bt179.2 = true then (if (bt179.1 == x0) = true then (if bt181.1 = bt177.1 then (if bt181.2 = 0 then ((wharfingerlaw12_awake.f k).bind fun t183 => (some t183)) else (some false)) else (some false)) else (some false)) else (some false)) else (some false))))
end
def wharfingerlaw12_VoteDecision.f (k : Nat) (a0 : Bool) (a1 : Bool) : Option (Bool) := if a0 = true then (wharfingerlaw12_VoteDecision.j0 k a0 a1 9 10) else (wharfingerlaw12_VoteDecision.j0 k a0 a1 10 9)
theorem wharfingerlaw12_VoteDecision.mono_l : ∀ k, (∀ y0 y1 y2 y3, LeO (wharfingerlaw12_VoteDecision.j0 k y0 y1 y2 y3) (wharfingerlaw12_VoteDecision.j0 (k + 1) y0 y1 y2 y3)) ∧ (∀ y0 y1 y2, LeO (wharfingerlaw12_VoteDecision.j1 k y0 y1 y2) (wharfingerlaw12_VoteDecision.j1 (k + 1) y0 y1 y2))
  | 0 => ⟨fun _ _ _ _ r h => by simp [wharfingerlaw12_VoteDecision.j0] at h, fun _ _ _ r h => by simp [wharfingerlaw12_VoteDecision.j1] at h⟩
  | k + 1 => by
    obtain ⟨ih0, ih1⟩ := wharfingerlaw12_VoteDecision.mono_l k
    refine ⟨?_, ?_⟩
    · intro y0 y1 y2 y3
      unfold wharfingerlaw12_VoteDecision.j0
      repeat' first
      | (with_reducible exact ih0 _ _ _ _)
      | (with_reducible exact ih1 _ _ _)
      | (with_reducible exact vote_Decided.mono _ _)
      | (with_reducible exact vote_Next.mono _ _ _ _)
      | (with_reducible exact wharfingerlaw12_awake.mono _)
      | (with_reducible exact LeO.refl _)
      | (with_reducible exact LeO.none _)
      | (with_reducible refine LeO.ite ?_ ?_)
      | (with_reducible refine LeO.bind ?_ (fun _ => ?_))
      | exact ih0 _ _ _ _
      | exact ih1 _ _ _
      | exact vote_Decided.mono _ _
      | exact vote_Next.mono _ _ _ _
      | exact wharfingerlaw12_awake.mono _
      | exact LeO.none _
      | refine LeO.ite ?_ ?_
      | refine LeO.bind ?_ (fun _ => ?_)
    · intro y0 y1 y2
      unfold wharfingerlaw12_VoteDecision.j1
      repeat' first
      | (with_reducible exact ih0 _ _ _ _)
      | (with_reducible exact ih1 _ _ _)
      | (with_reducible exact vote_Decided.mono _ _)
      | (with_reducible exact vote_Next.mono _ _ _ _)
      | (with_reducible exact wharfingerlaw12_awake.mono _)
      | (with_reducible exact LeO.refl _)
      | (with_reducible exact LeO.none _)
      | (with_reducible refine LeO.ite ?_ ?_)
      | (with_reducible refine LeO.bind ?_ (fun _ => ?_))
      | exact ih0 _ _ _ _
      | exact ih1 _ _ _
      | exact vote_Decided.mono _ _
      | exact vote_Next.mono _ _ _ _
      | exact wharfingerlaw12_awake.mono _
      | exact LeO.none _
      | refine LeO.ite ?_ ?_
      | refine LeO.bind ?_ (fun _ => ?_)
theorem wharfingerlaw12_VoteDecision.mono : ∀ a0 a1 k, LeO (wharfingerlaw12_VoteDecision.f k a0 a1) (wharfingerlaw12_VoteDecision.f (k + 1) a0 a1) := by
  intro a0 a1 k
  obtain ⟨ih0, ih1⟩ := wharfingerlaw12_VoteDecision.mono_l k
  unfold wharfingerlaw12_VoteDecision.f
  repeat' first
      | (with_reducible exact ih0 _ _ _ _)
      | (with_reducible exact ih1 _ _ _)
      | (with_reducible exact vote_Decided.mono _ _)
      | (with_reducible exact vote_Next.mono _ _ _ _)
      | (with_reducible exact wharfingerlaw12_awake.mono _)
      | (with_reducible exact LeO.refl _)
      | (with_reducible exact LeO.none _)
      | (with_reducible refine LeO.ite ?_ ?_)
      | (with_reducible refine LeO.bind ?_ (fun _ => ?_))
      | exact ih0 _ _ _ _
      | exact ih1 _ _ _
      | exact vote_Decided.mono _ _
      | exact vote_Next.mono _ _ _ _
      | exact wharfingerlaw12_awake.mono _
      | exact LeO.none _
      | refine LeO.ite ?_ ?_
      | refine LeO.bind ?_ (fun _ => ?_)
set_option maxHeartbeats 8000000 in
set_option maxRecDepth 100000 in
theorem wharfingerlaw12_VoteDecision.calls (k : Nat) (a0 : Bool) (a1 : Bool) (r : Bool) (w : World) (h : wharfingerlaw12_VoteDecision.f k a0 a1 = some r) :
    Calls Try.prog 7 #[.bool a0, .bool a1] w fun e w' => e = .returned (.bool r) ∧ Drawn0 w w' := by
  have H : (if a0 = true then (wharfingerlaw12_VoteDecision.j0 k a0 a1 9 10) else (wharfingerlaw12_VoteDecision.j0 k a0 a1 10 9)) = some r := h
  clear h
  have HC3 := Aside0.mk H
  clear H
  go_enter Try.func7, Try.ntmps7
  go_upto_if 13 with (fail)
  go_cut [5, 6] (fun v5 v6 wc => ∃ (kq : Nat) (x5_2 : Int) (x6_2 : Int), v5 = .int .i64 x5_2 ∧ v6 = .int .i64 x6_2 ∧ Aside0 (wharfingerlaw12_VoteDecision.j0 kq a0 a1 x5_2 x6_2 = some r) ∧ Aside0 (kq ≤ k) ∧ Drawn0 w wc)
  case first =>
    have H := HC3.out
    clear HC3
    by_cases c4 : a0 = true
    · subst c4
      have H1 : (wharfingerlaw12_VoteDecision.j0 k true a1 9 10) = some r := by rw [if_pos rfl] at H; exact H
      clear H
      have H := H1
      clear H1
      have H' := Aside0.mk H
      clear H
      go_wp2
      go_meet
      case rel => exact ⟨_, (9), (10), (by first | rfl | (simp; done) | (simp [*]; done)), (by first | rfl | (simp; done) | (simp [*]; done)), H', ⟨by first | omega | exact Nat.le_refl _⟩, by repeat (first | exact Drawn0.refl _ | apply Drawn0.step)⟩
    · replace c4 := Bool.eq_false_iff.mpr c4
      subst c4
      have H1 : (wharfingerlaw12_VoteDecision.j0 k false a1 10 9) = some r := by rw [if_neg (show ¬ (false = true) by decide)] at H; exact H
      clear H
      have H := H1
      clear H1
      have H' := Aside0.mk H
      clear H
      go_wp2
      go_meet
      case rel => exact ⟨_, (10), (9), (by first | rfl | (simp; done) | (simp [*]; done)), (by first | rfl | (simp; done) | (simp [*]; done)), H', ⟨by first | omega | exact Nat.le_refl _⟩, by repeat (first | exact Drawn0.refl _ | apply Drawn0.step)⟩
  case rest =>
    clear HC3
    try clear p2
    try clear c4
    obtain ⟨kq, x5_2, x6_2, rfl, rfl, HA, HJ2, ⟨mc2, rfl⟩⟩ := hcut
    cases kq with
    | zero => exact absurd HA.out (by simp [wharfingerlaw12_VoteDecision.j0])
    | succ kj2 =>
      have H := HA.out
      clear HA
      simp only [wharfingerlaw12_VoteDecision.j0] at H
      have HC5 := Aside0.mk H
      clear H
      go_upto_if 14 with (fail)
      go_cut [5, 6] (fun v5 v6 wc => ∃ (kq : Nat) (x5_4 : Int) (x6_4 : Int), v5 = .int .i64 x5_4 ∧ v6 = .int .i64 x6_4 ∧ Aside0 (wharfingerlaw12_VoteDecision.j1 kq a0 x5_4 x6_4 = some r) ∧ Aside0 (kq ≤ kj2) ∧ Drawn0 w wc)
      case first =>
        have H := HC5.out
        clear HC5
        by_cases c6 : a1 = true
        · subst c6
          have H1 : (wharfingerlaw12_VoteDecision.j1 kj2 a0 (wrap64 (x5_2 + 4)) (wrap64 (x6_2 + 4))) = some r := by rw [if_pos rfl] at H; exact H
          clear H
          have H := H1
          clear H1
          have H' := Aside0.mk H
          clear H
          go_wp2
          go_meet
          case rel => exact ⟨_, (wrap64 (x5_2 + 4)), (wrap64 (x6_2 + 4)), (by first | rfl | (simp; done) | (simp [*]; done)), (by first | rfl | (simp; done) | (simp [*]; done)), H', ⟨by have := HJ2.out; first | omega | exact Nat.le_refl _⟩, by repeat (first | exact Drawn0.refl _ | apply Drawn0.step)⟩
        · replace c6 := Bool.eq_false_iff.mpr c6
          subst c6
          have H1 : (wharfingerlaw12_VoteDecision.j1 kj2 a0 x5_2 x6_2) = some r := by rw [if_neg (show ¬ (false = true) by decide)] at H; exact H
          clear H
          have H := H1
          clear H1
          have H' := Aside0.mk H
          clear H
          go_wp2
          go_meet
          case rel => exact ⟨_, (x5_2), (x6_2), (by first | rfl | (simp; done) | (simp [*]; done)), (by first | rfl | (simp; done) | (simp [*]; done)), H', ⟨by have := HJ2.out; first | omega | exact Nat.le_refl _⟩, by repeat (first | exact Drawn0.refl _ | apply Drawn0.step)⟩
      case rest =>
        clear HC5
        try clear c2
        try clear p2
        try clear c4
        try clear c6
        try clear p6
        try clear p2
        obtain ⟨kq, x5_4, x6_4, rfl, rfl, HA, HJ4, ⟨mc4, rfl⟩⟩ := hcut
        cases kq with
        | zero => exact absurd HA.out (by simp [wharfingerlaw12_VoteDecision.j1])
        | succ kj4 =>
          have H := HA.out
          clear HA
          simp only [wharfingerlaw12_VoteDecision.j1] at H
          replace H := Option.bind_eq_some_iff.mp H
          obtain ⟨⟨t177, t178⟩, A70, H⟩ := H
          replace H : ((vote_Decided.f kj4 t177).bind fun bt179 => ((vote_Next.f kj4 t177 x6_4 false).bind fun bt181 => (if t178 = 11 then (if bt179.2 = true then (if (bt179.1 == a0) = true then (if bt181.1 = t177 then (if bt181.2 = 0 then ((wharfingerlaw12_awake.f kj4).bind fun t183 => (some t183)) else (some false)) else (some false)) else (some false)) else (some false)) else (some false)))) = some r := H
          have A7 := Aside0.mk A70
          clear A70
          replace H := Option.bind_eq_some_iff.mp H
          obtain ⟨⟨t179, t180⟩, A80, H⟩ := H
          replace H : ((vote_Next.f kj4 t177 x6_4 false).bind fun bt181 => (if t178 = 11 then (if t180 = true then (if (t179 == a0) = true then (if bt181.1 = t177 then (if bt181.2 = 0 then ((wharfingerlaw12_awake.f kj4).bind fun t183 => (some t183)) else (some false)) else (some false)) else (some false)) else (some false)) else (some false))) = some r := H
          have A8 := Aside0.mk A80
          clear A80
          replace H := Option.bind_eq_some_iff.mp H
          obtain ⟨⟨t181, t182⟩, A90, H⟩ := H
          replace H : (if t178 = 11 then (if t180 = true then (if (t179 == a0) = true then (if t181 = t177 then (if t182 = 0 then ((wharfingerlaw12_awake.f kj4).bind fun t183 => (some t183)) else (some false)) else (some false)) else (some false)) else (some false)) else (some false)) = some r := H
          have A9 := Aside0.mk A90
          clear A90
          by_cases c10 : t178 = 11
          · rw [if_pos c10] at H
            have c10b0 : (t178 == 11) = true := beq_iff_eq.mpr c10
            have c10b1 : (t178 != 11) = false := bne_eq_false_iff_eq.mpr c10
            clear c10
            by_cases c11 : t180 = true
            · subst c11
              have H1 : (if (t179 == a0) = true then (if t181 = t177 then (if t182 = 0 then ((wharfingerlaw12_awake.f kj4).bind fun t183 => (some t183)) else (some false)) else (some false)) else (some false)) = some r := by rw [if_pos rfl] at H; exact H
              clear H
              have H := H1
              clear H1
              by_cases c12 : (t179 == a0) = true
              · rw [if_pos c12] at H
                have c12b0 : (t179 == a0) = true := c12
                (try (have c12b1 : decide (t179 = a0) = true := by simpa using c12))
                (try (have c12b2 : (t179 == a0) = true := by simpa using c12))
                clear c12
                by_cases c13 : t181 = t177
                · rw [if_pos c13] at H
                  have c13b0 : (t181 == t177) = true := beq_iff_eq.mpr c13
                  have c13b1 : (t181 != t177) = false := bne_eq_false_iff_eq.mpr c13
                  clear c13
                  by_cases c14 : t182 = 0
                  · rw [if_pos c14] at H
                    have c14b0 : (t182 == 0) = true := beq_iff_eq.mpr c14
                    have c14b1 : (t182 != 0) = false := bne_eq_false_iff_eq.mpr c14
                    clear c14
                    replace H := Option.bind_eq_some_iff.mp H
                    obtain ⟨t183, A150, H⟩ := H
                    replace H : (some t183) = some r := H
                    have A15 := Aside0.mk A150
                    clear A150
                    obtain rfl := Option.some.inj H
                    go_wp2_with (first | ((with_reducible refine gate_callee (f := 21) rfl ?_); refine goesL_ (some 21) rfl rfl Try.func21 (by kernel_rfl) rfl #[.int .i64 1, .int .i64 x5_4, .bool false] rfl (by (try simp only [List.map_toArray, List.map_cons, List.map_nil]); first | done | rfl | (simp only [List.length_drop, List.length_take]; rfl)) ?_; (with_reducible refine (vote_Next.calls kj4 1 x5_4 false t177 t178 _ A7.out).mono ?_); rintro e w' ⟨rfl, ⟨nd, rfl⟩⟩; refine ⟨_, rfl, ?_⟩) | ((with_reducible refine gate_callee (f := 22) rfl ?_); refine goesL_ (some 26) rfl rfl Try.func22 (by kernel_rfl) rfl #[.int .i64 t177] rfl (by (try simp only [List.map_toArray, List.map_cons, List.map_nil]); first | done | rfl | (simp only [List.length_drop, List.length_take]; rfl)) ?_; (with_reducible refine (vote_Decided.calls kj4 t177 t179 true _ A8.out).mono ?_); rintro e w' ⟨rfl, ⟨nd, rfl⟩⟩; refine ⟨_, rfl, ?_⟩) | ((with_reducible refine gate_callee (f := 21) rfl ?_); refine goesL_ (some 32) rfl rfl Try.func21 (by kernel_rfl) rfl #[.int .i64 t177, .int .i64 x6_4, .bool false] rfl (by (try simp only [List.map_toArray, List.map_cons, List.map_nil]); first | done | rfl | (simp only [List.length_drop, List.length_take]; rfl)) ?_; (with_reducible refine (vote_Next.calls kj4 t177 x6_4 false t181 t182 _ A9.out).mono ?_); rintro e w' ⟨rfl, ⟨nd, rfl⟩⟩; refine ⟨_, rfl, ?_⟩) | (go_at_call 23; (with_reducible refine (wharfingerlaw12_awake.calls kj4  t183 _ A15.out).mono ?_); rintro e w' ⟨rfl, ⟨nd, rfl⟩⟩))
                    go_ret
                    exact ⟨by first | rfl | (simp; done) | (simp [*]; done), by repeat (first | exact Drawn0.refl _ | apply Drawn0.step)⟩
                  · rw [if_neg c14] at H
                    have c14b0 : (t182 == 0) = false := beq_eq_false_iff_ne.mpr c14
                    have c14b1 : (t182 != 0) = true := bne_iff_ne.mpr c14
                    obtain rfl := Option.some.inj H
                    go_wp2_with (first | ((with_reducible refine gate_callee (f := 21) rfl ?_); refine goesL_ (some 21) rfl rfl Try.func21 (by kernel_rfl) rfl #[.int .i64 1, .int .i64 x5_4, .bool false] rfl (by (try simp only [List.map_toArray, List.map_cons, List.map_nil]); first | done | rfl | (simp only [List.length_drop, List.length_take]; rfl)) ?_; (with_reducible refine (vote_Next.calls kj4 1 x5_4 false t177 t178 _ A7.out).mono ?_); rintro e w' ⟨rfl, ⟨nd, rfl⟩⟩; refine ⟨_, rfl, ?_⟩) | ((with_reducible refine gate_callee (f := 22) rfl ?_); refine goesL_ (some 26) rfl rfl Try.func22 (by kernel_rfl) rfl #[.int .i64 t177] rfl (by (try simp only [List.map_toArray, List.map_cons, List.map_nil]); first | done | rfl | (simp only [List.length_drop, List.length_take]; rfl)) ?_; (with_reducible refine (vote_Decided.calls kj4 t177 t179 true _ A8.out).mono ?_); rintro e w' ⟨rfl, ⟨nd, rfl⟩⟩; refine ⟨_, rfl, ?_⟩) | ((with_reducible refine gate_callee (f := 21) rfl ?_); refine goesL_ (some 32) rfl rfl Try.func21 (by kernel_rfl) rfl #[.int .i64 t177, .int .i64 x6_4, .bool false] rfl (by (try simp only [List.map_toArray, List.map_cons, List.map_nil]); first | done | rfl | (simp only [List.length_drop, List.length_take]; rfl)) ?_; (with_reducible refine (vote_Next.calls kj4 t177 x6_4 false t181 t182 _ A9.out).mono ?_); rintro e w' ⟨rfl, ⟨nd, rfl⟩⟩; refine ⟨_, rfl, ?_⟩))
                    go_ret
                    exact ⟨by first | rfl | (simp; done) | (simp [*]; done), by repeat (first | exact Drawn0.refl _ | apply Drawn0.step)⟩
                · rw [if_neg c13] at H
                  have c13b0 : (t181 == t177) = false := beq_eq_false_iff_ne.mpr c13
                  have c13b1 : (t181 != t177) = true := bne_iff_ne.mpr c13
                  obtain rfl := Option.some.inj H
                  go_wp2_with (first | ((with_reducible refine gate_callee (f := 21) rfl ?_); refine goesL_ (some 21) rfl rfl Try.func21 (by kernel_rfl) rfl #[.int .i64 1, .int .i64 x5_4, .bool false] rfl (by (try simp only [List.map_toArray, List.map_cons, List.map_nil]); first | done | rfl | (simp only [List.length_drop, List.length_take]; rfl)) ?_; (with_reducible refine (vote_Next.calls kj4 1 x5_4 false t177 t178 _ A7.out).mono ?_); rintro e w' ⟨rfl, ⟨nd, rfl⟩⟩; refine ⟨_, rfl, ?_⟩) | ((with_reducible refine gate_callee (f := 22) rfl ?_); refine goesL_ (some 26) rfl rfl Try.func22 (by kernel_rfl) rfl #[.int .i64 t177] rfl (by (try simp only [List.map_toArray, List.map_cons, List.map_nil]); first | done | rfl | (simp only [List.length_drop, List.length_take]; rfl)) ?_; (with_reducible refine (vote_Decided.calls kj4 t177 t179 true _ A8.out).mono ?_); rintro e w' ⟨rfl, ⟨nd, rfl⟩⟩; refine ⟨_, rfl, ?_⟩) | ((with_reducible refine gate_callee (f := 21) rfl ?_); refine goesL_ (some 32) rfl rfl Try.func21 (by kernel_rfl) rfl #[.int .i64 t177, .int .i64 x6_4, .bool false] rfl (by (try simp only [List.map_toArray, List.map_cons, List.map_nil]); first | done | rfl | (simp only [List.length_drop, List.length_take]; rfl)) ?_; (with_reducible refine (vote_Next.calls kj4 t177 x6_4 false t181 t182 _ A9.out).mono ?_); rintro e w' ⟨rfl, ⟨nd, rfl⟩⟩; refine ⟨_, rfl, ?_⟩))
                  go_ret
                  exact ⟨by first | rfl | (simp; done) | (simp [*]; done), by repeat (first | exact Drawn0.refl _ | apply Drawn0.step)⟩
              · rw [if_neg c12] at H
                have c12b0 : (t179 == a0) = false := by simpa using c12
                (try (have c12b1 : decide (t179 = a0) = false := by simpa using c12))
                (try (have c12b2 : (t179 == a0) = false := by simpa using c12))
                (try (have c12b3 : ¬ (t179 = a0) := by simpa using c12))
                clear c12
                obtain rfl := Option.some.inj H
                go_wp2_with (first | ((with_reducible refine gate_callee (f := 21) rfl ?_); refine goesL_ (some 21) rfl rfl Try.func21 (by kernel_rfl) rfl #[.int .i64 1, .int .i64 x5_4, .bool false] rfl (by (try simp only [List.map_toArray, List.map_cons, List.map_nil]); first | done | rfl | (simp only [List.length_drop, List.length_take]; rfl)) ?_; (with_reducible refine (vote_Next.calls kj4 1 x5_4 false t177 t178 _ A7.out).mono ?_); rintro e w' ⟨rfl, ⟨nd, rfl⟩⟩; refine ⟨_, rfl, ?_⟩) | ((with_reducible refine gate_callee (f := 22) rfl ?_); refine goesL_ (some 26) rfl rfl Try.func22 (by kernel_rfl) rfl #[.int .i64 t177] rfl (by (try simp only [List.map_toArray, List.map_cons, List.map_nil]); first | done | rfl | (simp only [List.length_drop, List.length_take]; rfl)) ?_; (with_reducible refine (vote_Decided.calls kj4 t177 t179 true _ A8.out).mono ?_); rintro e w' ⟨rfl, ⟨nd, rfl⟩⟩; refine ⟨_, rfl, ?_⟩) | ((with_reducible refine gate_callee (f := 21) rfl ?_); refine goesL_ (some 32) rfl rfl Try.func21 (by kernel_rfl) rfl #[.int .i64 t177, .int .i64 x6_4, .bool false] rfl (by (try simp only [List.map_toArray, List.map_cons, List.map_nil]); first | done | rfl | (simp only [List.length_drop, List.length_take]; rfl)) ?_; (with_reducible refine (vote_Next.calls kj4 t177 x6_4 false t181 t182 _ A9.out).mono ?_); rintro e w' ⟨rfl, ⟨nd, rfl⟩⟩; refine ⟨_, rfl, ?_⟩))
                go_ret
                exact ⟨by first | rfl | (simp; done) | (simp [*]; done), by repeat (first | exact Drawn0.refl _ | apply Drawn0.step)⟩
            · replace c11 := Bool.eq_false_iff.mpr c11
              subst c11
              have H1 : (some false) = some r := by rw [if_neg (show ¬ (false = true) by decide)] at H; exact H
              clear H
              have H := H1
              clear H1
              obtain rfl := Option.some.inj H
              go_wp2_with (first | ((with_reducible refine gate_callee (f := 21) rfl ?_); refine goesL_ (some 21) rfl rfl Try.func21 (by kernel_rfl) rfl #[.int .i64 1, .int .i64 x5_4, .bool false] rfl (by (try simp only [List.map_toArray, List.map_cons, List.map_nil]); first | done | rfl | (simp only [List.length_drop, List.length_take]; rfl)) ?_; (with_reducible refine (vote_Next.calls kj4 1 x5_4 false t177 t178 _ A7.out).mono ?_); rintro e w' ⟨rfl, ⟨nd, rfl⟩⟩; refine ⟨_, rfl, ?_⟩) | ((with_reducible refine gate_callee (f := 22) rfl ?_); refine goesL_ (some 26) rfl rfl Try.func22 (by kernel_rfl) rfl #[.int .i64 t177] rfl (by (try simp only [List.map_toArray, List.map_cons, List.map_nil]); first | done | rfl | (simp only [List.length_drop, List.length_take]; rfl)) ?_; (with_reducible refine (vote_Decided.calls kj4 t177 t179 false _ A8.out).mono ?_); rintro e w' ⟨rfl, ⟨nd, rfl⟩⟩; refine ⟨_, rfl, ?_⟩) | ((with_reducible refine gate_callee (f := 21) rfl ?_); refine goesL_ (some 32) rfl rfl Try.func21 (by kernel_rfl) rfl #[.int .i64 t177, .int .i64 x6_4, .bool false] rfl (by (try simp only [List.map_toArray, List.map_cons, List.map_nil]); first | done | rfl | (simp only [List.length_drop, List.length_take]; rfl)) ?_; (with_reducible refine (vote_Next.calls kj4 t177 x6_4 false t181 t182 _ A9.out).mono ?_); rintro e w' ⟨rfl, ⟨nd, rfl⟩⟩; refine ⟨_, rfl, ?_⟩))
              go_ret
              exact ⟨by first | rfl | (simp; done) | (simp [*]; done), by repeat (first | exact Drawn0.refl _ | apply Drawn0.step)⟩
          · rw [if_neg c10] at H
            have c10b0 : (t178 == 11) = false := beq_eq_false_iff_ne.mpr c10
            have c10b1 : (t178 != 11) = true := bne_iff_ne.mpr c10
            obtain rfl := Option.some.inj H
            go_wp2_with (first | ((with_reducible refine gate_callee (f := 21) rfl ?_); refine goesL_ (some 21) rfl rfl Try.func21 (by kernel_rfl) rfl #[.int .i64 1, .int .i64 x5_4, .bool false] rfl (by (try simp only [List.map_toArray, List.map_cons, List.map_nil]); first | done | rfl | (simp only [List.length_drop, List.length_take]; rfl)) ?_; (with_reducible refine (vote_Next.calls kj4 1 x5_4 false t177 t178 _ A7.out).mono ?_); rintro e w' ⟨rfl, ⟨nd, rfl⟩⟩; refine ⟨_, rfl, ?_⟩) | ((with_reducible refine gate_callee (f := 22) rfl ?_); refine goesL_ (some 26) rfl rfl Try.func22 (by kernel_rfl) rfl #[.int .i64 t177] rfl (by (try simp only [List.map_toArray, List.map_cons, List.map_nil]); first | done | rfl | (simp only [List.length_drop, List.length_take]; rfl)) ?_; (with_reducible refine (vote_Decided.calls kj4 t177 t179 t180 _ A8.out).mono ?_); rintro e w' ⟨rfl, ⟨nd, rfl⟩⟩; refine ⟨_, rfl, ?_⟩) | ((with_reducible refine gate_callee (f := 21) rfl ?_); refine goesL_ (some 32) rfl rfl Try.func21 (by kernel_rfl) rfl #[.int .i64 t177, .int .i64 x6_4, .bool false] rfl (by (try simp only [List.map_toArray, List.map_cons, List.map_nil]); first | done | rfl | (simp only [List.length_drop, List.length_take]; rfl)) ?_; (with_reducible refine (vote_Next.calls kj4 t177 x6_4 false t181 t182 _ A9.out).mono ?_); rintro e w' ⟨rfl, ⟨nd, rfl⟩⟩; refine ⟨_, rfl, ?_⟩))
            go_ret
            exact ⟨by first | rfl | (simp; done) | (simp [*]; done), by repeat (first | exact Drawn0.refl _ | apply Drawn0.step)⟩

/-- THE ONE PURE STATEMENT of wharfingerlaw12_VoteDecision: yours. -/
def wharfingerlaw12_VoteDecision.Pure : Prop := ∀ (a0 : Bool) (a1 : Bool), ∃ k, wharfingerlaw12_VoteDecision.f k a0 a1 = some true
theorem wharfingerlaw12_VoteDecision.walk (P : wharfingerlaw12_VoteDecision.Pure) (a0 : Bool) (a1 : Bool) (w : World)  :
    Calls Try.prog 7 #[.bool a0, .bool a1] w fun e w' => e = .returned (.bool true) ∧ Below w.heap.size w w' := by
  obtain ⟨k, h⟩ := P a0 a1 
  refine (wharfingerlaw12_VoteDecision.calls k a0 a1 true w h).mono ?_
  rintro e w' ⟨rfl, hd⟩
  exact ⟨rfl, hd.below⟩

/-! ### wharfingerref12_May: function 27 -/
def wharfingerref12_May.f (a0 : Int) : Option (Bool) := if a0 ≥ 0 then (some (decide (a0 ≤ 5))) else (some false)
set_option maxHeartbeats 8000000 in
set_option maxRecDepth 100000 in
theorem wharfingerref12_May.calls (a0 : Int) (r : Bool) (w : World) (h : wharfingerref12_May.f a0 = some r) :
    Calls Try.prog 27 #[.int .i64 a0] w fun e w' => e = .returned (.bool r) ∧ Drawn0 w w' := by
  have H : (if a0 ≥ 0 then (some (decide (a0 ≤ 5))) else (some false)) = some r := h
  clear h
  by_cases c2 : a0 ≥ 0
  · rw [if_pos c2] at H
    have c2b0 : decide (0 ≤ a0) = true := decide_eq_true c2
    clear c2
    obtain rfl := Option.some.inj H
    go_enter Try.func27, Try.ntmps27
    go_wp2
    go_ret
    exact ⟨by first | rfl | (simp; done) | (simp [*]; done), by repeat (first | exact Drawn0.refl _ | apply Drawn0.step)⟩
  · rw [if_neg c2] at H
    have c2b0 : decide (0 ≤ a0) = false := decide_eq_false c2
    clear c2
    obtain rfl := Option.some.inj H
    go_enter Try.func27, Try.ntmps27
    go_wp2
    go_ret
    exact ⟨by first | rfl | (simp; done) | (simp [*]; done), by repeat (first | exact Drawn0.refl _ | apply Drawn0.step)⟩

end Go.Proofs.Ytnchlddbcomokab.Hh

/- Functions of the given program as Lean functions, and that the Go code comes to their answers; written by wip/print_hand.py out of the translation. -/
import Derived.Test.YtnchlddbcomokabHx0
import Derived.Test.YtnchlddbcomokabHx1
import Derived.Test.YtnchlddbcomokabHx3
import Derived.Test.YtnchlddbcomokabHx4
namespace Go.Proofs.Ytnchlddbcomokab.Hh
open Go.RowKit Go.Proofs.YtnchlddbcomokabW.PrintWords Go.Proofs.YtnchlddbcomokabW.PrintLast Go.Proofs.YtnchlddbcomokabW.PrintMore
attribute [local go_sem] max2_int min2_int max_two min_two max_three min_three max_four min_four   -- for this text's walks alone
set_option linter.unusedVariables false
set_option linter.unusedSimpArgs false

/-! ### wharfingerlaw12_VoteNames: function 8 -/
def wharfingerlaw12_VoteNames.j0 : Nat → Int → Int → ByteArray → ByteArray → Bool → Option (Bool)
  | 0, _, _, _, _, _ => none
  | k + 1, x0, x1, x5, x6, x36 => if x36 = true then (some false) else ((vote_May.f x0).bind fun t191 => (if t191 = true then ((vote_May.f x1).bind fun t192 => (if t192 = true then (if ((x5.toList == x6.toList) == (x0 == x1)) = true then ((wharfingerref12_May.f x0).bind fun t193 => ((vote_May.f x0).bind fun t194 => (if (t193 == t194) = true then ((wharfingerlaw12_awake.f k).bind fun t195 => (some t195)) else (some false)))) else (some false)) else ((wharfingerref12_May.f x0).bind fun t196 => ((vote_May.f x0).bind fun t197 => (if (t196 == t197) = true then ((wharfingerlaw12_awake.f k).bind fun t198 => (some t198)) else (some false)))))) else ((wharfingerref12_May.f x0).bind fun t199 => ((vote_May.f x0).bind fun t200 => (if (t199 == t200) = true then ((wharfingerlaw12_awake.f k).bind fun t201 => (some t201)) else (some false))))))
def wharfingerlaw12_VoteNames.f (k : Nat) (a0 : Int) (a1 : Int) : Option (Bool) := (vote_Name.f a0).bind fun t184 => ((vote_Name.f a1).bind fun t185 => ((vote_Decided.f k a0).bind fun bt186 => ((vote_May.f a0).bind fun t188 => (if (t188 != (t184.toList != ([] : List UInt8))) = true then (wharfingerlaw12_VoteNames.j0 k a0 a1 t184 t185 true) else ((vote_Final.f k a0).bind fun t189 => (if (bt186.2 != t189) = true then (wharfingerlaw12_VoteNames.j0 k a0 a1 t184 t185 true) else (if bt186.2 = true then ((vote_May.f a0).bind fun t190 => (wharfingerlaw12_VoteNames.j0 k a0 a1 t184 t185 (!t190))) else (wharfingerlaw12_VoteNames.j0 k a0 a1 t184 t185 false))))))))
theorem wharfingerlaw12_VoteNames.mono_l : ∀ k, (∀ y0 y1 y2 y3 y4, LeO (wharfingerlaw12_VoteNames.j0 k y0 y1 y2 y3 y4) (wharfingerlaw12_VoteNames.j0 (k + 1) y0 y1 y2 y3 y4))
  | 0 => fun _ _ _ _ _ r h => by simp [wharfingerlaw12_VoteNames.j0] at h
  | k + 1 => by
    have ih0 := wharfingerlaw12_VoteNames.mono_l k
    · intro y0 y1 y2 y3 y4
      unfold wharfingerlaw12_VoteNames.j0
      repeat' first
      | (with_reducible exact ih0 _ _ _ _ _)
      | (with_reducible exact vote_Decided.mono _ _)
      | (with_reducible exact vote_Final.mono _ _)
      | (with_reducible exact wharfingerlaw12_awake.mono _)
      | (with_reducible exact LeO.refl _)
      | (with_reducible exact LeO.none _)
      | (with_reducible refine LeO.ite ?_ ?_)
      | (with_reducible refine LeO.bind ?_ (fun _ => ?_))
      | exact ih0 _ _ _ _ _
      | exact vote_Decided.mono _ _
      | exact vote_Final.mono _ _
      | exact wharfingerlaw12_awake.mono _
      | exact LeO.none _
      | refine LeO.ite ?_ ?_
      | refine LeO.bind ?_ (fun _ => ?_)
theorem wharfingerlaw12_VoteNames.mono : ∀ a0 a1 k, LeO (wharfingerlaw12_VoteNames.f k a0 a1) (wharfingerlaw12_VoteNames.f (k + 1) a0 a1) := by
  intro a0 a1 k
  have ih0 := wharfingerlaw12_VoteNames.mono_l k
  unfold wharfingerlaw12_VoteNames.f
  repeat' first
      | (with_reducible exact ih0 _ _ _ _ _)
      | (with_reducible exact vote_Decided.mono _ _)
      | (with_reducible exact vote_Final.mono _ _)
      | (with_reducible exact wharfingerlaw12_awake.mono _)
      | (with_reducible exact LeO.refl _)
      | (with_reducible exact LeO.none _)
      | (with_reducible refine LeO.ite ?_ ?_)
      | (with_reducible refine LeO.bind ?_ (fun _ => ?_))
      | exact ih0 _ _ _ _ _
      | exact vote_Decided.mono _ _
      | exact vote_Final.mono _ _
      | exact wharfingerlaw12_awake.mono _
      | exact LeO.none _
      | refine LeO.ite ?_ ?_
      | refine LeO.bind ?_ (fun _ => ?_)
set_option maxHeartbeats 8000000 in
set_option maxRecDepth 100000 in
theorem wharfingerlaw12_VoteNames.calls (k : Nat) (a0 : Int) (a1 : Int) (r : Bool) (w : World) (h : wharfingerlaw12_VoteNames.f k a0 a1 = some r) :
    Calls Try.prog 8 #[.int .i64 a0, .int .i64 a1] w fun e w' => e = .returned (.bool r) ∧ Drawn0 w w' := by
  have H : ((vote_Name.f a0).bind fun t184 => ((vote_Name.f a1).bind fun t185 => ((vote_Decided.f k a0).bind fun bt186 => ((vote_May.f a0).bind fun t188 => (if (t188 != (t184.toList != ([] : List UInt8))) = true then (wharfingerlaw12_VoteNames.j0 k a0 a1 t184 t185 true) else ((vote_Final.f k a0).bind fun t189 => (if (bt186.2 != t189) = true then (wharfingerlaw12_VoteNames.j0 k a0 a1 t184 t185 true) else (if bt186.2 = true then ((vote_May.f a0).bind fun t190 => (wharfingerlaw12_VoteNames.j0 k a0 a1 t184 t185 (!t190))) else (wharfingerlaw12_VoteNames.j0 k a0 a1 t184 t185 false))))))))) = some r := h
  clear h
  replace H := Option.bind_eq_some_iff.mp H
  obtain ⟨t184, A30, H⟩ := H
  replace H : ((vote_Name.f a1).bind fun t185 => ((vote_Decided.f k a0).bind fun bt186 => ((vote_May.f a0).bind fun t188 => (if (t188 != (t184.toList != ([] : List UInt8))) = true then (wharfingerlaw12_VoteNames.j0 k a0 a1 t184 t185 true) else ((vote_Final.f k a0).bind fun t189 => (if (bt186.2 != t189) = true then (wharfingerlaw12_VoteNames.j0 k a0 a1 t184 t185 true) else (if bt186.2 = true then ((vote_May.f a0).bind fun t190 => (wharfingerlaw12_VoteNames.j0 k a0 a1 t184 t185 (!t190))) else (wharfingerlaw12_VoteNames.j0 k a0 a1 t184 t185 false)))))))) = some r := H
  have A3 := Aside0.mk A30
  clear A30
  replace H := Option.bind_eq_some_iff.mp H
  obtain ⟨t185, A40, H⟩ := H
  replace H : ((vote_Decided.f k a0).bind fun bt186 => ((vote_May.f a0).bind fun t188 => (if (t188 != (t184.toList != ([] : List UInt8))) = true then (wharfingerlaw12_VoteNames.j0 k a0 a1 t184 t185 true) else ((vote_Final.f k a0).bind fun t189 => (if (bt186.2 != t189) = true then (wharfingerlaw12_VoteNames.j0 k a0 a1 t184 t185 true) else (if bt186.2 = true then ((vote_May.f a0).bind fun t190 => (wharfingerlaw12_VoteNames.j0 k a0 a1 t184 t185 (!t190))) else (wharfingerlaw12_VoteNames.j0 k a0 a1 t184 t185 false))))))) = some r := H
  have A4 := Aside0.mk A40
  clear A40
  replace H := Option.bind_eq_some_iff.mp H
  obtain ⟨⟨t186, t187⟩, A50, H⟩ := H
  replace H : ((vote_May.f a0).bind fun t188 => (if (t188 != (t184.toList != ([] : List UInt8))) = true then (wharfingerlaw12_VoteNames.j0 k a0 a1 t184 t185 true) else ((vote_Final.f k a0).bind fun t189 => (if (t187 != t189) = true then (wharfingerlaw12_VoteNames.j0 k a0 a1 t184 t185 true) else (if t187 = true then ((vote_May.f a0).bind fun t190 => (wharfingerlaw12_VoteNames.j0 k a0 a1 t184 t185 (!t190))) else (wharfingerlaw12_VoteNames.j0 k a0 a1 t184 t185 false)))))) = some r := H
  have A5 := Aside0.mk A50
  clear A50
  have HC6 := Aside0.mk H
  clear H
  go_enter Try.func8, Try.ntmps8
  go_upto_region 3 with (first | ((with_reducible refine gate_callee (f := 25) rfl ?_); refine goesL_ (some 10) rfl rfl Try.func25 (by kernel_rfl) rfl #[.int .i64 a0] rfl (by (try simp only [List.map_toArray, List.map_cons, List.map_nil]); first | done | rfl | (simp only [List.length_drop, List.length_take]; rfl)) ?_; (with_reducible refine (vote_Name.calls a0 t184 _ A3.out).mono ?_); rintro e w' ⟨rfl, ⟨nd, rfl⟩⟩; refine ⟨_, rfl, ?_⟩) | ((with_reducible refine gate_callee (f := 25) rfl ?_); refine goesL_ (some 12) rfl rfl Try.func25 (by kernel_rfl) rfl #[.int .i64 a1] rfl (by (try simp only [List.map_toArray, List.map_cons, List.map_nil]); first | done | rfl | (simp only [List.length_drop, List.length_take]; rfl)) ?_; (with_reducible refine (vote_Name.calls a1 t185 _ A4.out).mono ?_); rintro e w' ⟨rfl, ⟨nd, rfl⟩⟩; refine ⟨_, rfl, ?_⟩) | ((with_reducible refine gate_callee (f := 22) rfl ?_); refine goesL_ (some 15) rfl rfl Try.func22 (by kernel_rfl) rfl #[.int .i64 a0] rfl (by (try simp only [List.map_toArray, List.map_cons, List.map_nil]); first | done | rfl | (simp only [List.length_drop, List.length_take]; rfl)) ?_; (with_reducible refine (vote_Decided.calls k a0 t186 t187 _ A5.out).mono ?_); rintro e w' ⟨rfl, ⟨nd, rfl⟩⟩; refine ⟨_, rfl, ?_⟩))
  (try simp only [Act.put, List.setIfInBounds_toArray, List.set_cons_zero, List.set_cons_succ])
  go_cut [36] (fun v36 wc => ∃ (kq : Nat) (x36_5 : Bool), v36 = .bool x36_5 ∧ Aside0 (wharfingerlaw12_VoteNames.j0 kq a0 a1 t184 t185 x36_5 = some r) ∧ Aside0 (kq ≤ k) ∧ Drawn0 w wc)
  case first =>
    have H := HC6.out
    clear HC6
    replace H := Option.bind_eq_some_iff.mp H
    obtain ⟨t188, A70, H⟩ := H
    replace H : (if (t188 != (t184.toList != ([] : List UInt8))) = true then (wharfingerlaw12_VoteNames.j0 k a0 a1 t184 t185 true) else ((vote_Final.f k a0).bind fun t189 => (if (t187 != t189) = true then (wharfingerlaw12_VoteNames.j0 k a0 a1 t184 t185 true) else (if t187 = true then ((vote_May.f a0).bind fun t190 => (wharfingerlaw12_VoteNames.j0 k a0 a1 t184 t185 (!t190))) else (wharfingerlaw12_VoteNames.j0 k a0 a1 t184 t185 false))))) = some r := H
    have A7 := Aside0.mk A70
    clear A70
    by_cases c8 : (t188 != (t184.toList != ([] : List UInt8))) = true
    · rw [if_pos c8] at H
      have c8b0 : (t188 != (t184.toList != ([] : List UInt8))) = true := c8
      have hC_ : t188 = t184.toList.isEmpty := by have h_ := c8b0; revert h_; cases t188 <;> cases t184.toList <;> simp
      clear c8b0 c8
      subst hC_
      skip
      skip
      have H' := Aside0.mk H
      clear H
      go_wp2_with (first | ((with_reducible refine gate_callee (f := 24) rfl ?_); refine goesL_ (some 19) rfl rfl Try.func24 (by kernel_rfl) rfl #[.int .i64 a0] rfl (by (try simp only [List.map_toArray, List.map_cons, List.map_nil]); first | done | rfl | (simp only [List.length_drop, List.length_take]; rfl)) ?_; (with_reducible refine (vote_May.calls a0 (t184.toList.isEmpty) _ A7.out).mono ?_); rintro e w' ⟨rfl, ⟨nd, rfl⟩⟩; refine ⟨_, rfl, ?_⟩))
      go_meet
      case rel => exact ⟨_, (true), (by first | rfl | (simp; done) | (simp [*]; done)), H', ⟨by first | omega | exact Nat.le_refl _⟩, by repeat (first | exact Drawn0.refl _ | apply Drawn0.step)⟩
    · rw [if_neg c8] at H
      have c8b0 : (t188 != (t184.toList != ([] : List UInt8))) = false := by simpa using c8
      have hC_ : t188 = (!t184.toList.isEmpty) := by have h_ := c8b0; revert h_; cases t188 <;> cases t184.toList <;> simp
      clear c8b0 c8
      subst hC_
      skip
      skip
      replace H := Option.bind_eq_some_iff.mp H
      obtain ⟨t189, A90, H⟩ := H
      replace H : (if (t187 != t189) = true then (wharfingerlaw12_VoteNames.j0 k a0 a1 t184 t185 true) else (if t187 = true then ((vote_May.f a0).bind fun t190 => (wharfingerlaw12_VoteNames.j0 k a0 a1 t184 t185 (!t190))) else (wharfingerlaw12_VoteNames.j0 k a0 a1 t184 t185 false))) = some r := H
      have A9 := Aside0.mk A90
      clear A90
      by_cases c10 : (t187 != t189) = true
      · rw [if_pos c10] at H
        have c10b0 : (t187 != t189) = true := c10
        (try (have c10b1 : decide (t187 = t189) = false := by simpa using c10))
        (try (have c10b2 : (t187 == t189) = false := by simpa using c10))
        (try (have c10b3 : ¬ (t187 = t189) := by simpa using c10))
        clear c10
        have H' := Aside0.mk H
        clear H
        go_wp2_with (first | ((with_reducible refine gate_callee (f := 24) rfl ?_); refine goesL_ (some 19) rfl rfl Try.func24 (by kernel_rfl) rfl #[.int .i64 a0] rfl (by (try simp only [List.map_toArray, List.map_cons, List.map_nil]); first | done | rfl | (simp only [List.length_drop, List.length_take]; rfl)) ?_; (with_reducible refine (vote_May.calls a0 (!t184.toList.isEmpty) _ A7.out).mono ?_); rintro e w' ⟨rfl, ⟨nd, rfl⟩⟩; refine ⟨_, rfl, ?_⟩) | (go_at_call 26; (with_reducible refine (vote_Final.calls k a0 t189 _ A9.out).mono ?_); rintro e w' ⟨rfl, ⟨nd, rfl⟩⟩))
        go_meet
        case rel => exact ⟨_, (true), (by first | rfl | (simp; done) | (simp [*]; done)), H', ⟨by first | omega | exact Nat.le_refl _⟩, by repeat (first | exact Drawn0.refl _ | apply Drawn0.step)⟩
      · rw [if_neg c10] at H
        have c10b0 : (t187 != t189) = false := by simpa using c10
        (try (have c10b1 : decide (t187 = t189) = true := by simpa using c10))
        (try (have c10b2 : (t187 == t189) = true := by simpa using c10))
        clear c10
        by_cases c11 : t187 = true
        · subst c11
          have H1 : ((vote_May.f a0).bind fun t190 => (wharfingerlaw12_VoteNames.j0 k a0 a1 t184 t185 (!t190))) = some r := by rw [if_pos rfl] at H; exact H
          clear H
          have H := H1
          clear H1
          replace H := Option.bind_eq_some_iff.mp H
          obtain ⟨t190, A120, H⟩ := H
          replace H : (wharfingerlaw12_VoteNames.j0 k a0 a1 t184 t185 (!t190)) = some r := H
          have A12 := Aside0.mk A120
          clear A120
          have H' := Aside0.mk H
          clear H
          go_wp2_with (first | ((with_reducible refine gate_callee (f := 24) rfl ?_); refine goesL_ (some 19) rfl rfl Try.func24 (by kernel_rfl) rfl #[.int .i64 a0] rfl (by (try simp only [List.map_toArray, List.map_cons, List.map_nil]); first | done | rfl | (simp only [List.length_drop, List.length_take]; rfl)) ?_; (with_reducible refine (vote_May.calls a0 (!t184.toList.isEmpty) _ A7.out).mono ?_); rintro e w' ⟨rfl, ⟨nd, rfl⟩⟩; refine ⟨_, rfl, ?_⟩) | (go_at_call 26; (with_reducible refine (vote_Final.calls k a0 t189 _ A9.out).mono ?_); rintro e w' ⟨rfl, ⟨nd, rfl⟩⟩) | (go_at_call 24; (with_reducible refine (vote_May.calls a0 t190 _ A12.out).mono ?_); rintro e w' ⟨rfl, ⟨nd, rfl⟩⟩))
          go_meet
          case rel => exact ⟨_, (!t190), (by first | rfl | (simp; done) | (simp [*]; done)), H', ⟨by first | omega | exact Nat.le_refl _⟩, by repeat (first | exact Drawn0.refl _ | apply Drawn0.step)⟩
        · replace c11 := Bool.eq_false_iff.mpr c11
          subst c11
          have H1 : (wharfingerlaw12_VoteNames.j0 k a0 a1 t184 t185 false) = some r := by rw [if_neg (show ¬ (false = true) by decide)] at H; exact H
          clear H
          have H := H1
          clear H1
          have H' := Aside0.mk H
          clear H
          go_wp2_with (first | ((with_reducible refine gate_callee (f := 24) rfl ?_); refine goesL_ (some 19) rfl rfl Try.func24 (by kernel_rfl) rfl #[.int .i64 a0] rfl (by (try simp only [List.map_toArray, List.map_cons, List.map_nil]); first | done | rfl | (simp only [List.length_drop, List.length_take]; rfl)) ?_; (with_reducible refine (vote_May.calls a0 (!t184.toList.isEmpty) _ A7.out).mono ?_); rintro e w' ⟨rfl, ⟨nd, rfl⟩⟩; refine ⟨_, rfl, ?_⟩) | (go_at_call 26; (with_reducible refine (vote_Final.calls k a0 t189 _ A9.out).mono ?_); rintro e w' ⟨rfl, ⟨nd, rfl⟩⟩))
          go_meet
          case rel => exact ⟨_, (false), (by first | rfl | (simp; done) | (simp [*]; done)), H', ⟨by first | omega | exact Nat.le_refl _⟩, by repeat (first | exact Drawn0.refl _ | apply Drawn0.step)⟩
  case rest =>
    clear HC6
    try clear c1
    try clear c2
    try clear p2
    try clear c8
    try clear c8b0
    try clear c8b1
    try clear c8b2
    try clear c10
    try clear c10b0
    try clear c10b1
    try clear c10b2
    try clear c11
    obtain ⟨kq, x36_5, rfl, HA, HJ5, ⟨mc5, rfl⟩⟩ := hcut
    cases kq with
    | zero => exact absurd HA.out (by simp [wharfingerlaw12_VoteNames.j0])
    | succ kj5 =>
      have H := HA.out
      clear HA
      simp only [wharfingerlaw12_VoteNames.j0] at H
      by_cases c13 : x36_5 = true
      · subst c13
        have H1 : (some false) = some r := by rw [if_pos rfl] at H; exact H
        clear H
        have H := H1
        clear H1
        obtain rfl := Option.some.inj H
        go_wp2
        go_ret
        exact ⟨by first | rfl | (simp; done) | (simp [*]; done), by repeat (first | exact Drawn0.refl _ | apply Drawn0.step)⟩
      · replace c13 := Bool.eq_false_iff.mpr c13
        subst c13
        have H1 : ((vote_May.f a0).bind fun t191 => (if t191 = true then ((vote_May.f a1).bind fun t192 => (if t192 = true then (if ((t184.toList == t185.toList) == (a0 == a1)) = true then ((wharfingerref12_May.f a0).bind fun t193 => ((vote_May.f a0).bind fun t194 => (if (t193 == t194) = true then ((wharfingerlaw12_awake.f kj5).bind fun t195 => (some t195)) else (some false)))) else (some false)) else ((wharfingerref12_May.f a0).bind fun t196 => ((vote_May.f a0).bind fun t197 => (if (t196 == t197) = true then ((wharfingerlaw12_awake.f kj5).bind fun t198 => (some t198)) else (some false)))))) else ((wharfingerref12_May.f a0).bind fun t199 => ((vote_May.f a0).bind fun t200 => (if (t199 == t200) = true then ((wharfingerlaw12_awake.f kj5).bind fun t201 => (some t201)) else (some false)))))) = some r := by rw [if_neg (show ¬ (false = true) by decide)] at H; exact H
        clear H
        have H := H1
        clear H1
        replace H := Option.bind_eq_some_iff.mp H
        obtain ⟨t191, A140, H⟩ := H
        replace H : (if t191 = true then ((vote_May.f a1).bind fun t192 => (if t192 = true then (if ((t184.toList == t185.toList) == (a0 == a1)) = true then ((wharfingerref12_May.f a0).bind fun t193 => ((vote_May.f a0).bind fun t194 => (if (t193 == t194) = true then ((wharfingerlaw12_awake.f kj5).bind fun t195 => (some t195)) else (some false)))) else (some false)) else ((wharfingerref12_May.f a0).bind fun t196 => ((vote_May.f a0).bind fun t197 => (if (t196 == t197) = true then ((wharfingerlaw12_awake.f kj5).bind fun t198 => (some t198)) else (some false)))))) else ((wharfingerref12_May.f a0).bind fun t199 => ((vote_May.f a0).bind fun t200 => (if (t199 == t200) = true then ((wharfingerlaw12_awake.f kj5).bind fun t201 => (some t201)) else (some false))))) = some r := H
        have A14 := Aside0.mk A140
        clear A140
        by_cases c15 : t191 = true
        · subst c15
          have H1 : ((vote_May.f a1).bind fun t192 => (if t192 = true then (if ((t184.toList == t185.toList) == (a0 == a1)) = true then ((wharfingerref12_May.f a0).bind fun t193 => ((vote_May.f a0).bind fun t194 => (if (t193 == t194) = true then ((wharfingerlaw12_awake.f kj5).bind fun t195 => (some t195)) else (some false)))) else (some false)) else ((wharfingerref12_May.f a0).bind fun t196 => ((vote_May.f a0).bind fun t197 => (if (t196 == t197) = true then ((wharfingerlaw12_awake.f kj5).bind fun t198 => (some t198)) else (some false)))))) = some r := by rw [if_pos rfl] at H; exact H
          clear H
          have H := H1
          clear H1
          replace H := Option.bind_eq_some_iff.mp H
          obtain ⟨t192, A160, H⟩ := H
          replace H : (if t192 = true then (if ((t184.toList == t185.toList) == (a0 == a1)) = true then ((wharfingerref12_May.f a0).bind fun t193 => ((vote_May.f a0).bind fun t194 => (if (t193 == t194) = true then ((wharfingerlaw12_awake.f kj5).bind fun t195 => (some t195)) else (some false)))) else (some false)) else ((wharfingerref12_May.f a0).bind fun t196 => ((vote_May.f a0).bind fun t197 => (if (t196 == t197) = true then ((wharfingerlaw12_awake.f kj5).bind fun t198 => (some t198)) else (some false))))) = some r := H
          have A16 := Aside0.mk A160
          clear A160
          by_cases c17 : t192 = true
          · subst c17
            have H1 : (if ((t184.toList == t185.toList) == (a0 == a1)) = true then ((wharfingerref12_May.f a0).bind fun t193 => ((vote_May.f a0).bind fun t194 => (if (t193 == t194) = true then ((wharfingerlaw12_awake.f kj5).bind fun t195 => (some t195)) else (some false)))) else (some false)) = some r := by rw [if_pos rfl] at H; exact H
            clear H
            have H := H1
            clear H1
            by_cases c18 : ((t184.toList == t185.toList) == (a0 == a1)) = true
            · rw [if_pos c18] at H
              have c18b0 : ((t184.toList == t185.toList) == (a0 == a1)) = true := c18
              (try (have c18b1 : decide ((t184.toList == t185.toList) = (a0 == a1)) = true := by simpa using c18))
              (try (have c18b2 : ((t184.toList == t185.toList) == (a0 == a1)) = true := by simpa using c18))
              clear c18
              replace H := Option.bind_eq_some_iff.mp H
              obtain ⟨t193, A190, H⟩ := H
              replace H : ((vote_May.f a0).bind fun t194 => (if (t193 == t194) = true then ((wharfingerlaw12_awake.f kj5).bind fun t195 => (some t195)) else (some false))) = some r := H
              have A19 := Aside0.mk A190
              clear A190
              replace H := Option.bind_eq_some_iff.mp H
              obtain ⟨t194, A200, H⟩ := H
              replace H : (if (t193 == t194) = true then ((wharfingerlaw12_awake.f kj5).bind fun t195 => (some t195)) else (some false)) = some r := H
              have A20 := Aside0.mk A200
              clear A200
              by_cases c21 : (t193 == t194) = true
              · rw [if_pos c21] at H
                have c21b0 : (t193 == t194) = true := c21
                (try (have c21b1 : decide (t193 = t194) = true := by simpa using c21))
                (try (have c21b2 : (t193 == t194) = true := by simpa using c21))
                clear c21
                replace H := Option.bind_eq_some_iff.mp H
                obtain ⟨t195, A220, H⟩ := H
                replace H : (some t195) = some r := H
                have A22 := Aside0.mk A220
                clear A220
                obtain rfl := Option.some.inj H
                go_wp2_with (first | ((with_reducible refine gate_callee (f := 24) rfl ?_); refine goesL_ (some 38) rfl rfl Try.func24 (by kernel_rfl) rfl #[.int .i64 a0] rfl (by (try simp only [List.map_toArray, List.map_cons, List.map_nil]); first | done | rfl | (simp only [List.length_drop, List.length_take]; rfl)) ?_; (with_reducible refine (vote_May.calls a0 true _ A14.out).mono ?_); rintro e w' ⟨rfl, ⟨nd, rfl⟩⟩; refine ⟨_, rfl, ?_⟩) | (go_at_call 24; (with_reducible refine (vote_May.calls a1 true _ A16.out).mono ?_); rintro e w' ⟨rfl, ⟨nd, rfl⟩⟩) | (go_at_call 27; (with_reducible refine (wharfingerref12_May.calls a0 t193 _ A19.out).mono ?_); rintro e w' ⟨rfl, ⟨nd, rfl⟩⟩) | (go_at_call 24; (with_reducible refine (vote_May.calls a0 t194 _ A20.out).mono ?_); rintro e w' ⟨rfl, ⟨nd, rfl⟩⟩) | (go_at_call 23; (with_reducible refine (wharfingerlaw12_awake.calls kj5  t195 _ A22.out).mono ?_); rintro e w' ⟨rfl, ⟨nd, rfl⟩⟩))
                go_ret
                exact ⟨by first | rfl | (simp; done) | (simp [*]; done), by repeat (first | exact Drawn0.refl _ | apply Drawn0.step)⟩
              · rw [if_neg c21] at H
                have c21b0 : (t193 == t194) = false := by simpa using c21
                (try (have c21b1 : decide (t193 = t194) = false := by simpa using c21))
                (try (have c21b2 : (t193 == t194) = false := by simpa using c21))
                (try (have c21b3 : ¬ (t193 = t194) := by simpa using c21))
                clear c21
                obtain rfl := Option.some.inj H
                go_wp2_with (first | ((with_reducible refine gate_callee (f := 24) rfl ?_); refine goesL_ (some 38) rfl rfl Try.func24 (by kernel_rfl) rfl #[.int .i64 a0] rfl (by (try simp only [List.map_toArray, List.map_cons, List.map_nil]); first | done | rfl | (simp only [List.length_drop, List.length_take]; rfl)) ?_; (with_reducible refine (vote_May.calls a0 true _ A14.out).mono ?_); rintro e w' ⟨rfl, ⟨nd, rfl⟩⟩; refine ⟨_, rfl, ?_⟩) | (go_at_call 24; (with_reducible refine (vote_May.calls a1 true _ A16.out).mono ?_); rintro e w' ⟨rfl, ⟨nd, rfl⟩⟩) | (go_at_call 27; (with_reducible refine (wharfingerref12_May.calls a0 t193 _ A19.out).mono ?_); rintro e w' ⟨rfl, ⟨nd, rfl⟩⟩) | (go_at_call 24; (with_reducible refine (vote_May.calls a0 t194 _ A20.out).mono ?_); rintro e w' ⟨rfl, ⟨nd, rfl⟩⟩))
                go_ret
                exact ⟨by first | rfl | (simp; done) | (simp [*]; done), by repeat (first | exact Drawn0.refl _ | apply Drawn0.step)⟩
            · rw [if_neg c18] at H
              have c18b0 : ((t184.toList == t185.toList) == (a0 == a1)) = false := by simpa using c18
              (try (have c18b1 : decide ((t184.toList == t185.toList) = (a0 == a1)) = false := by simpa using c18))
              (try (have c18b2 : ((t184.toList == t185.toList) == (a0 == a1)) = false := by simpa using c18))
              (try (have c18b3 : ¬ ((t184.toList == t185.toList) = (a0 == a1)) := by simpa using c18))
              clear c18
              obtain rfl := Option.some.inj H
              go_wp2_with (first | ((with_reducible refine gate_callee (f := 24) rfl ?_); refine goesL_ (some 38) rfl rfl Try.func24 (by kernel_rfl) rfl #[.int .i64 a0] rfl (by (try simp only [List.map_toArray, List.map_cons, List.map_nil]); first | done | rfl | (simp only [List.length_drop, List.length_take]; rfl)) ?_; (with_reducible refine (vote_May.calls a0 true _ A14.out).mono ?_); rintro e w' ⟨rfl, ⟨nd, rfl⟩⟩; refine ⟨_, rfl, ?_⟩) | (go_at_call 24; (with_reducible refine (vote_May.calls a1 true _ A16.out).mono ?_); rintro e w' ⟨rfl, ⟨nd, rfl⟩⟩))
              go_ret
              exact ⟨by first | rfl | (simp; done) | (simp [*]; done), by repeat (first | exact Drawn0.refl _ | apply Drawn0.step)⟩
          · replace c17 := Bool.eq_false_iff.mpr c17
            subst c17
            have H1 : ((wharfingerref12_May.f a0).bind fun t196 => ((vote_May.f a0).bind fun t197 => (if (t196 == t197) = true then ((wharfingerlaw12_awake.f kj5).bind fun t198 => (some t198)) else (some false)))) = some r := by rw [if_neg (show ¬ (false = true) by decide)] at H; exact H
            clear H
            have H := H1
            clear H1
            replace H := Option.bind_eq_some_iff.mp H
            obtain ⟨t196, A230, H⟩ := H
            replace H : ((vote_May.f a0).bind fun t197 => (if (t196 == t197) = true then ((wharfingerlaw12_awake.f kj5).bind fun t198 => (some t198)) else (some false))) = some r := H
            have A23 := Aside0.mk A230
            clear A230
            replace H := Option.bind_eq_some_iff.mp H
            obtain ⟨t197, A240, H⟩ := H
            replace H : (if (t196 == t197) = true then ((wharfingerlaw12_awake.f kj5).bind fun t198 => (some t198)) else (some false)) = some r := H
            have A24 := Aside0.mk A240
            clear A240
            by_cases c25 : (t196 == t197) = true
            · rw [if_pos c25] at H
              have c25b0 : (t196 == t197) = true := c25
              (try (have c25b1 : decide (t196 = t197) = true := by simpa using c25))
              (try (have c25b2 : (t196 == t197) = true := by simpa using c25))
              clear c25
              replace H := Option.bind_eq_some_iff.mp H
              obtain ⟨t198, A260, H⟩ := H
              replace H : (some t198) = some r := H
              have A26 := Aside0.mk A260
              clear A260
              obtain rfl := Option.some.inj H
              go_wp2_with (first | ((with_reducible refine gate_callee (f := 24) rfl ?_); refine goesL_ (some 38) rfl rfl Try.func24 (by kernel_rfl) rfl #[.int .i64 a0] rfl (by (try simp only [List.map_toArray, List.map_cons, List.map_nil]); first | done | rfl | (simp only [List.length_drop, List.length_take]; rfl)) ?_; (with_reducible refine (vote_May.calls a0 true _ A14.out).mono ?_); rintro e w' ⟨rfl, ⟨nd, rfl⟩⟩; refine ⟨_, rfl, ?_⟩) | (go_at_call 24; (with_reducible refine (vote_May.calls a1 false _ A16.out).mono ?_); rintro e w' ⟨rfl, ⟨nd, rfl⟩⟩) | (go_at_call 27; (with_reducible refine (wharfingerref12_May.calls a0 t196 _ A23.out).mono ?_); rintro e w' ⟨rfl, ⟨nd, rfl⟩⟩) | (go_at_call 24; (with_reducible refine (vote_May.calls a0 t197 _ A24.out).mono ?_); rintro e w' ⟨rfl, ⟨nd, rfl⟩⟩) | (go_at_call 23; (with_reducible refine (wharfingerlaw12_awake.calls kj5  t198 _ A26.out).mono ?_); rintro e w' ⟨rfl, ⟨nd, rfl⟩⟩))
              go_ret
              exact ⟨by first | rfl | (simp; done) | (simp [*]; done), by repeat (first | exact Drawn0.refl _ | apply Drawn0.step)⟩
            · rw [if_neg c25] at H
              have c25b0 : (t196 == t197) = false := by simpa using c25
              (try (have c25b1 : decide (t196 = t197) = false := by simpa using c25))
              (try (have c25b2 : (t196 == t197) = false := by simpa using c25))
              (try (have c25b3 : ¬ (t196 = t197) := by simpa using c25))
              clear c25
              obtain rfl := Option.some.inj H
              go_wp2_with (first | ((with_reducible refine gate_callee (f := 24) rfl ?_); refine goesL_ (some 38) rfl rfl Try.func24 (by kernel_rfl) rfl #[.int .i64 a0] rfl (by (try simp only [List.map_toArray, List.map_cons, List.map_nil]); first | done | rfl | (simp only [List.length_drop, List.length_take]; rfl)) ?_; (with_reducible refine (vote_May.calls a0 true _ A14.out).mono ?_); rintro e w' ⟨rfl, ⟨nd, rfl⟩⟩; refine ⟨_, rfl, ?_⟩) | (go_at_call 24; (with_reducible refine (vote_May.calls a1 false _ A16.out).mono ?_); rintro e w' ⟨rfl, ⟨nd, rfl⟩⟩) | (go_at_call 27; (with_reducible refine (wharfingerref12_May.calls a0 t196 _ A23.out).mono ?_); rintro e w' ⟨rfl, ⟨nd, rfl⟩⟩) | (go_at_call 24; (with_reducible refine (vote_May.calls a0 t197 _ A24.out).mono ?_); rintro e w' ⟨rfl, ⟨nd, rfl⟩⟩))
              go_ret
              exact ⟨by first | rfl | (simp; done) | (simp [*]; done), by repeat (first | exact Drawn0.refl _ | apply Drawn0.step)⟩
        · replace c15 := Bool.eq_false_iff.mpr c15
          subst c15
          have H1 : ((wharfingerref12_May.f a0).bind fun t199 => ((vote_May.f a0).bind fun t200 => (if (t199 == t200) = true then ((wharfingerlaw12_awake.f kj5).bind fun t201 => (some t201)) else (some false)))) = some r := by rw [if_neg (show ¬ (false = true) by decide)] at H; exact H
          clear H
          have H := H1
          clear H1
          replace H := Option.bind_eq_some_iff.mp H
          obtain ⟨t199, A270, H⟩ := H
          replace H : ((vote_May.f a0).bind fun t200 => (if (t199 == t200) = true then ((wharfingerlaw12_awake.f kj5).bind fun t201 => (some t201)) else (some false))) = some r := H
          have A27 := Aside0.mk A270
          clear A270
          replace H := Option.bind_eq_some_iff.mp H
          obtain ⟨t200, A280, H⟩ := H
          replace H : (if (t199 == t200) = true then ((wharfingerlaw12_awake.f kj5).bind fun t201 => (some t201)) else (some false)) = some r := H
          have A28 := Aside0.mk A280
          clear A280
          by_cases c29 : (t199 == t200) = true
          · rw [if_pos c29] at H
            have c29b0 : (t199 == t200) = true := c29
            (try (have c29b1 : decide (t199 = t200) = true := by simpa using c29))
            (try (have c29b2 : (t199 == t200) = true := by simpa using c29))
            clear c29
            replace H := Option.bind_eq_some_iff.mp H
            obtain ⟨t201, A300, H⟩ := H
            replace H : (some t201) = some r := H
            have A30 := Aside0.mk A300
            clear A300
            obtain rfl := Option.some.inj H
            go_wp2_with (first | ((with_reducible refine gate_callee (f := 24) rfl ?_); refine goesL_ (some 38) rfl rfl Try.func24 (by kernel_rfl) rfl #[.int .i64 a0] rfl (by (try simp only [List.map_toArray, List.map_cons, List.map_nil]); first | done | rfl | (simp only [List.length_drop, List.length_take]; rfl)) ?_; (with_reducible refine (vote_May.calls a0 false _ A14.out).mono ?_); rintro e w' ⟨rfl, ⟨nd, rfl⟩⟩; refine ⟨_, rfl, ?_⟩) | (go_at_call 27; (with_reducible refine (wharfingerref12_May.calls a0 t199 _ A27.out).mono ?_); rintro e w' ⟨rfl, ⟨nd, rfl⟩⟩) | (go_at_call 24; (with_reducible refine (vote_May.calls a0 t200 _ A28.out).mono ?_); rintro e w' ⟨rfl, ⟨nd, rfl⟩⟩) | (go_at_call 23; (with_reducible refine (wharfingerlaw12_awake.calls kj5  t201 _ A30.out).mono ?_); rintro e w' ⟨rfl, ⟨nd, rfl⟩⟩))
            go_ret
            exact ⟨by first | rfl | (simp; done) | (simp [*]; done), by repeat (first | exact Drawn0.refl _ | apply Drawn0.step)⟩
          · rw [if_neg c29] at H
            have c29b0 : (t199 == t200) = false := by simpa using c29
            (try (have c29b1 : decide (t199 = t200) = false := by simpa using c29))
            (try (have c29b2 : (t199 == t200) = false := by simpa using c29))
            (try (have c29b3 : ¬ (t199 = t200) := by simpa using c29))
            clear c29
            obtain rfl := Option.some.inj H
            go_wp2_with (first | ((with_reducible refine gate_callee (f := 24) rfl ?_); refine goesL_ (some 38) rfl rfl Try.func24 (by kernel_rfl) rfl #[.int .i64 a0] rfl (by (try simp only [List.map_toArray, List.map_cons, List.map_nil]); first | done | rfl | (simp only [List.length_drop, List.length_take]; rfl)) ?_; (with_reducible refine (vote_May.calls a0 false _ A14.out).mono ?_); rintro e w' ⟨rfl, ⟨nd, rfl⟩⟩; refine ⟨_, rfl, ?_⟩) | (go_at_call 27; (with_reducible refine (wharfingerref12_May.calls a0 t199 _ A27.out).mono ?_); rintro e w' ⟨rfl, ⟨nd, rfl⟩⟩) | (go_at_call 24; (with_reducible refine (vote_May.calls a0 t200 _ A28.out).mono ?_); rintro e w' ⟨rfl, ⟨nd, rfl⟩⟩))
            go_ret
            exact ⟨by first | rfl | (simp; done) | (simp [*]; done), by repeat (first | exact Drawn0.refl _ | apply Drawn0.step)⟩

/-- THE ONE PURE STATEMENT of wharfingerlaw12_VoteNames: yours. -/
def wharfingerlaw12_VoteNames.Pure : Prop := ∀ (a0 : Int) (a1 : Int), (Lit.int .i64 a0).wf = true → (Lit.int .i64 a1).wf = true → ∃ k, wharfingerlaw12_VoteNames.f k a0 a1 = some true
theorem wharfingerlaw12_VoteNames.walk (P : wharfingerlaw12_VoteNames.Pure) (a0 : Int) (a1 : Int) (w : World) (w0 : (Lit.int .i64 a0).wf = true) (w1 : (Lit.int .i64 a1).wf = true) :
    Calls Try.prog 8 #[.int .i64 a0, .int .i64 a1] w fun e w' => e = .returned (.bool true) ∧ Below w.heap.size w w' := by
  obtain ⟨k, h⟩ := P a0 a1 w0 w1
  refine (wharfingerlaw12_VoteNames.calls k a0 a1 true w h).mono ?_
  rintro e w' ⟨rfl, hd⟩
  exact ⟨rfl, hd.below⟩

/-! ### peers_Tells: function 29 -/
def peers_Tells.f (k : Nat) (a0 : Int) : Option (Int) := (vote_Next.f k a0 12 false).bind fun bt202 => (some bt202.2)
theorem peers_Tells.mono : ∀ a0 k, LeO (peers_Tells.f k a0) (peers_Tells.f (k + 1) a0) := by
  intro a0 k
  unfold peers_Tells.f
  repeat' first
      | (with_reducible exact vote_Next.mono _ _ _ _)
      | (with_reducible exact LeO.refl _)
      | (with_reducible exact LeO.none _)
      | (with_reducible refine LeO.ite ?_ ?_)
      | (with_reducible refine LeO.bind ?_ (fun _ => ?_))
      | exact vote_Next.mono _ _ _ _
      | exact LeO.none _
      | refine LeO.ite ?_ ?_
      | refine LeO.bind ?_ (fun _ => ?_)
set_option maxHeartbeats 8000000 in
set_option maxRecDepth 100000 in
theorem peers_Tells.calls (k : Nat) (a0 : Int) (r : Int) (w : World) (h : peers_Tells.f k a0 = some r) :
    Calls Try.prog 29 #[.int .i64 a0] w fun e w' => e = .returned (.int .i64 r) ∧ Drawn0 w w' := by
  have H : ((vote_Next.f k a0 12 false).bind fun bt202 => (some bt202.2)) = some r := h
  clear h
  replace H := Option.bind_eq_some_iff.mp H
  obtain ⟨⟨t202, t203⟩, A20, H⟩ := H
  replace H : (some t203) = some r := H
  have A2 := Aside0.mk A20
  clear A20
  obtain rfl := Option.some.inj H
  go_enter Try.func29, Try.ntmps29
  go_wp2_with (first | ((with_reducible refine gate_callee (f := 21) rfl ?_); refine goesL_ (some 7) rfl rfl Try.func21 (by kernel_rfl) rfl #[.int .i64 a0, .int .i64 12, .bool false] rfl (by (try simp only [List.map_toArray, List.map_cons, List.map_nil]); first | done | rfl | (simp only [List.length_drop, List.length_take]; rfl)) ?_; (with_reducible refine (vote_Next.calls k a0 12 false t202 t203 _ A2.out).mono ?_); rintro e w' ⟨rfl, ⟨nd, rfl⟩⟩; refine ⟨_, rfl, ?_⟩))
  go_ret
  exact ⟨by first | rfl | (simp; done) | (simp [*]; done), by repeat (first | exact Drawn0.refl _ | apply Drawn0.step)⟩

/-! ### peers_Decide: function 31 -/
def peers_Decide.l0 (k : Nat) : List Int → Int → Option (Int)
  | [], x => some x
  | s :: l, _ => (peers_Tells.f k s).bind fun t => if t > 0 then some t else peers_Decide.l0 k l t
def peers_Decide.f (k : Nat) (l0 : List Int) : Option (Int) := peers_Decide.l0 k l0 0
theorem peers_Decide.mono_l (k : Nat) : ∀ (l : List Int) (x : Int), LeO (peers_Decide.l0 k l x) (peers_Decide.l0 (k + 1) l x)
  | [], _ => LeO.refl _
  | s :: l, x => by
    unfold peers_Decide.l0
    refine LeO.bind (peers_Tells.mono _ _) (fun t => ?_)
    refine LeO.ite (LeO.refl _) (peers_Decide.mono_l k l t)
theorem peers_Decide.mono : ∀ a0 k, LeO (peers_Decide.f k a0) (peers_Decide.f (k + 1) a0) := fun a0 k => peers_Decide.mono_l k a0 0
theorem peers_Decide.at_ (l : List Int) (n : Nat) (h : n < l.length) : l.drop n = rd l (n : Int) :: l.drop (n + 1) := by
  rw [List.drop_eq_getElem_cons h]
  unfold rd
  rw [Int.toNat_natCast, List.getD_eq_getElem?_getD, List.getElem?_eq_getElem h]
  rfl
set_option maxHeartbeats 8000000 in
set_option maxRecDepth 100000 in
theorem peers_Decide.calls (k : Nat) (A0 : Option Addr) (c0 : Nat) (l0 : List Int) (r : Int) (w : World) (hr0 : Kd.C (Kd.int .i64) w A0 l0.length l0) (hc0 : l0.length ≤ c0) (h : peers_Decide.f k l0 = some r) :
    Calls Try.prog 31 #[.slice A0 l0.length c0] w fun e w' => e = .returned (.int .i64 r) ∧ Drawn0 w w' := by
  have hm := (Kd.reads_of_C (enc := Value.int .i64) (d := (0 : Int)) (h1 := fun _ => rfl) hr0).2.1
  have HR0 := Aside0.mk hr0
  clear hr0 hc0
  have H' := Aside0.mk h
  clear h
  go_enter Try.func31, Try.ntmps31
  go_wp2
  go_step3
  go_wp2
  go_step3
  go_wp2
  go_loopg [3, 8] l0.length (fun gq v3 v8 w' => ∃ (x : Int) (n : Nat), v3 = .int .i64 x ∧ v8 = .int .i64 (n : Int) ∧ n ≤ l0.length ∧ Aside0 (peers_Decide.l0 k (l0.drop n) x = some r) ∧ Aside0 (gq + n = l0.length) ∧ Drawn0 w w')
  case atStart => exact ⟨0, 0, rfl, rfl, Nat.zero_le _, H', ⟨rfl⟩, by repeat (first | exact Drawn0.refl _ | apply Drawn0.step)⟩
  case round =>
    clear H'
    obtain ⟨x, n, rfl, rfl, hn, HA, HK, ⟨m1, rfl⟩⟩ := hrel
    by_cases hlt : n < l0.length
    · have H := HA.out
      clear HA
      rw [peers_Decide.at_ l0 n hlt] at H
      unfold peers_Decide.l0 at H
      replace H := Option.bind_eq_some_iff.mp H
      obtain ⟨t, A50, H⟩ := H
      have A5 := Aside0.mk A50
      clear A50
      obtain ⟨ad1, e1, hx1⟩ := Kd.at_int HR0.out (n : Int) (by omega) (by omega)
      cases e1
      rw [Int.toNat_natCast] at hx1
      generalize rd l0 (n : Int) = s at *
      by_cases ht : t > 0
      · rw [if_pos ht] at H
        obtain rfl := Option.some.inj H
        clear H
        go_wp2_with (go_at_call 29; (with_reducible refine (peers_Tells.calls k s t _ A5.out).mono ?_); rintro e w' ⟨rfl, ⟨nd, rfl⟩⟩)
        rw [Exit.noGoto_ret]
        go_ret
        exact ⟨rfl, by repeat (first | exact Drawn0.refl _ | apply Drawn0.step)⟩
      · rw [if_neg ht] at H
        have H' := Aside0.mk H
        clear H
        go_wp2_with (go_at_call 29; (with_reducible refine (peers_Tells.calls k s t _ A5.out).mono ?_); rintro e w' ⟨rfl, ⟨nd, rfl⟩⟩)
        go_roundg (l0.length - (n + 1))
        case measure => have := HK.out; omega
        case rel => exact ⟨t, n + 1, rfl, by go_num, hlt, H', ⟨by omega⟩, by repeat (first | exact Drawn0.refl _ | apply Drawn0.step)⟩
    · have H := HA.out
      clear HA
      rw [List.drop_eq_nil_of_le (by omega)] at H
      unfold peers_Decide.l0 at H
      obtain rfl := Option.some.inj H
      clear H
      go_wp2
      rw [Exit.noGoto_ret]
      go_ret
      exact ⟨rfl, by repeat (first | exact Drawn0.refl _ | apply Drawn0.step)⟩
theorem peers_Decide.calls_n (k : Nat) (A0 : Option Addr) (n c0 : Nat) (l0 : List Int) (r : Int) (w : World) (hn : l0.length = n) (hr0 : Kd.C (Kd.int .i64) w A0 l0.length l0) (hc0 : l0.length ≤ c0) (h : peers_Decide.f k l0 = some r) :
    Calls Try.prog 31 #[.slice A0 n c0] w fun e w' => e = .returned (.int .i64 r) ∧ Drawn0 w w' := by
  subst hn
  exact peers_Decide.calls k A0 c0 l0 r w hr0 hc0 h

/-! ### peers_Safe: function 33 -/
def peers_Safe.l0 : Nat → Bool → Bool → List Int → Int → Int → Option (Bool)
  | 0, _, _, _, _, _ => none
  | k + 1, x3, x4, x7, x8, x9 => if x9 < x8 then (if 0 ≤ x9 then (if x9 < (x7.length : Int) then ((vote_May.f (rd x7 x9)).bind fun t205 => (if t205 = true then (if (rd x7 x9) = 2 then (peers_Safe.l0 k true x4 x7 x8 (wrap64 (x9 + 1))) else (if (rd x7 x9) = 0 then (peers_Safe.l0 k x3 true x7 x8 (wrap64 (x9 + 1))) else (if (rd x7 x9) = 3 then (peers_Safe.l0 k x3 true x7 x8 (wrap64 (x9 + 1))) else (peers_Safe.l0 k x3 x4 x7 x8 (wrap64 (x9 + 1)))))) else (some false))) else (none)) else (none)) else (if x3 = true then (some (!x4)) else (some true))
def peers_Safe.f (k : Nat) (l0 : List Int) : Option (Bool) := peers_Safe.l0 k false false l0 (l0.length : Int) 0
theorem peers_Safe.mono_l : ∀ k, (∀ y0 y1 y2 y3 y4, LeO (peers_Safe.l0 k y0 y1 y2 y3 y4) (peers_Safe.l0 (k + 1) y0 y1 y2 y3 y4))
  | 0 => fun _ _ _ _ _ r h => by simp [peers_Safe.l0] at h
  | k + 1 => by
    have ih0 := peers_Safe.mono_l k
    · intro y0 y1 y2 y3 y4
      unfold peers_Safe.l0
      repeat' first
      | (with_reducible exact ih0 _ _ _ _ _)
      | (with_reducible exact LeO.refl _)
      | (with_reducible exact LeO.none _)
      | (with_reducible refine LeO.ite ?_ ?_)
      | (with_reducible refine LeO.bind ?_ (fun _ => ?_))
      | exact ih0 _ _ _ _ _
      | exact LeO.none _
      | refine LeO.ite ?_ ?_
      | refine LeO.bind ?_ (fun _ => ?_)
theorem peers_Safe.mono : ∀ a0 k, LeO (peers_Safe.f k a0) (peers_Safe.f (k + 1) a0) := by
  intro a0 k
  have ih0 := peers_Safe.mono_l k
  unfold peers_Safe.f
  repeat' first
      | (with_reducible exact ih0 _ _ _ _ _)
      | (with_reducible exact LeO.refl _)
      | (with_reducible exact LeO.none _)
      | (with_reducible refine LeO.ite ?_ ?_)
      | (with_reducible refine LeO.bind ?_ (fun _ => ?_))
      | exact ih0 _ _ _ _ _
      | exact LeO.none _
      | refine LeO.ite ?_ ?_
      | refine LeO.bind ?_ (fun _ => ?_)
set_option maxHeartbeats 8000000 in
set_option maxRecDepth 100000 in
theorem peers_Safe.calls (k : Nat) (A0 : Option Addr) (c0 : Nat) (l0 : List Int) (r : Bool) (w : World) (hr0 : Kd.C (Kd.int .i64) w A0 l0.length l0) (hc0 : l0.length ≤ c0) (h : peers_Safe.f k l0 = some r) :
    Calls Try.prog 33 #[.slice A0 l0.length c0] w fun e w' => e = .returned (.bool r) ∧ Drawn0 w w' := by
  have HR0 := Aside0.mk hr0
  have HC0 := Aside0.mk hc0
  clear hr0 hc0
  have H : (peers_Safe.l0 k false false l0 (l0.length : Int) 0) = some r := h
  clear h
  have H' := Aside0.mk H
  clear H
  go_enter Try.func33, Try.ntmps33
  go_wp2
  go_loopg [3, 4, 9] k (fun kq v3 v4 v9 w' => ∃ (x3_1 : Bool) (x4_1 : Bool) (x9_1 : Int), v3 = .bool x3_1 ∧ v4 = .bool x4_1 ∧ v9 = .int .i64 x9_1 ∧ Aside0 (peers_Safe.l0 kq x3_1 x4_1 l0 (l0.length : Int) x9_1 = some r) ∧ Aside0 (kq ≤ k) ∧ Drawn0 w w')
  case atStart => exact ⟨(false), (false), (0), (by first | rfl | (simp; done) | (simp [*]; done)), (by first | rfl | (simp; done) | (simp [*]; done)), (by first | rfl | (simp; done) | (simp [*]; done)), H', ⟨Nat.le_refl _⟩, by repeat (first | exact Drawn0.refl _ | apply Drawn0.step)⟩
  case round =>
    clear H'
    obtain ⟨x3_1, x4_1, x9_1, rfl, rfl, rfl, HA, HK1, ⟨m1, rfl⟩⟩ := hrel
    cases gk with
    | zero => exact absurd HA.out (by simp [peers_Safe.l0])
    | succ k1 =>
      have H := HA.out
      clear HA
      simp only [peers_Safe.l0] at H
      by_cases c2 : x9_1 < (l0.length : Int)
      · rw [if_pos c2] at H
        have c2b0 : decide (x9_1 < (l0.length : Int)) = true := decide_eq_true c2
        clear c2
        by_cases c3 : 0 ≤ x9_1
        · rw [if_pos c3] at H
          have c3b0 : decide (0 ≤ x9_1) = true := decide_eq_true c3
          clear c3
          by_cases c4 : x9_1 < (l0.length : Int)
          · rw [if_pos c4] at H
            have c4b0 : decide (x9_1 < (l0.length : Int)) = true := decide_eq_true c4
            clear c4
            replace H := Option.bind_eq_some_iff.mp H
            obtain ⟨t205, A50, H⟩ := H
            replace H : (if t205 = true then (if (rd l0 x9_1) = 2 then (peers_Safe.l0 k1 true x4_1 l0 (l0.length : Int) (wrap64 (x9_1 + 1))) else (if (rd l0 x9_1) = 0 then (peers_Safe.l0 k1 x3_1 true l0 (l0.length : Int) (wrap64 (x9_1 + 1))) else (if (rd l0 x9_1) = 3 then (peers_Safe.l0 k1 x3_1 true l0 (l0.length : Int) (wrap64 (x9_1 + 1))) else (peers_Safe.l0 k1 x3_1 x4_1 l0 (l0.length : Int) (wrap64 (x9_1 + 1)))))) else (some false)) = some r := H
            have A5 := Aside0.mk A50
            clear A50
            by_cases c6 : t205 = true
            · subst c6
              have H1 : (if (rd l0 x9_1) = 2 then (peers_Safe.l0 k1 true x4_1 l0 (l0.length : Int) (wrap64 (x9_1 + 1))) else (if (rd l0 x9_1) = 0 then (peers_Safe.l0 k1 x3_1 true l0 (l0.length : Int) (wrap64 (x9_1 + 1))) else (if (rd l0 x9_1) = 3 then (peers_Safe.l0 k1 x3_1 true l0 (l0.length : Int) (wrap64 (x9_1 + 1))) else (peers_Safe.l0 k1 x3_1 x4_1 l0 (l0.length : Int) (wrap64 (x9_1 + 1)))))) = some r := by rw [if_pos rfl] at H; exact H
              clear H
              have H := H1
              clear H1
              by_cases c7 : (rd l0 x9_1) = 2
              · rw [if_pos c7] at H
                have c7b0 : ((rd l0 x9_1) == 2) = true := beq_iff_eq.mpr c7
                have c7b1 : ((rd l0 x9_1) != 2) = false := bne_eq_false_iff_eq.mpr c7
                clear c7
                have H' := Aside0.mk H
                clear H
                have p204 : 0 ≤ (x9_1 : Int) := of_decide_eq_true (by first | (with_reducible assumption) | assumption)
                have q204 : x9_1 < (l0.length : Int) := of_decide_eq_true (by first | (with_reducible assumption) | assumption)
                obtain ⟨ad204, e204, hx204_0⟩ := Kd.at_int HR0.out x9_1 p204 q204
                cases e204
                replace p204 := eq_true p204
                replace q204 := eq_true q204
                go_wp2_with (first | ((with_reducible refine gate_callee (f := 24) rfl ?_); refine goesL_ (some 15) rfl rfl Try.func24 (by kernel_rfl) rfl #[.int .i64 (rd l0 x9_1)] rfl (by (try simp only [List.map_toArray, List.map_cons, List.map_nil]); first | done | rfl | (simp only [List.length_drop, List.length_take]; rfl)) ?_; (with_reducible refine (vote_May.calls (rd l0 x9_1) true _ A5.out).mono ?_); rintro e w' ⟨rfl, ⟨nd, rfl⟩⟩; refine ⟨_, rfl, ?_⟩))
                go_roundg k1
                case measure => have := HK1.out; omega
                case rel => exact ⟨(true), (x4_1), (wrap64 (x9_1 + 1)), (by first | rfl | (simp; done) | (simp [*]; done)), (by first | rfl | (simp; done) | (simp [*]; done)), (by first | rfl | (simp; done) | (simp [*]; done)), H', ⟨by have := HK1.out; omega⟩, by repeat (first | exact Drawn0.refl _ | apply Drawn0.step)⟩
              · rw [if_neg c7] at H
                have c7b0 : ((rd l0 x9_1) == 2) = false := beq_eq_false_iff_ne.mpr c7
                have c7b1 : ((rd l0 x9_1) != 2) = true := bne_iff_ne.mpr c7
                by_cases c8 : (rd l0 x9_1) = 0
                · rw [if_pos c8] at H
                  have c8b0 : ((rd l0 x9_1) == 0) = true := beq_iff_eq.mpr c8
                  have c8b1 : ((rd l0 x9_1) != 0) = false := bne_eq_false_iff_eq.mpr c8
                  clear c8
                  have H' := Aside0.mk H
                  clear H
                  have p204 : 0 ≤ (x9_1 : Int) := of_decide_eq_true (by first | (with_reducible assumption) | assumption)
                  have q204 : x9_1 < (l0.length : Int) := of_decide_eq_true (by first | (with_reducible assumption) | assumption)
                  obtain ⟨ad204, e204, hx204_0⟩ := Kd.at_int HR0.out x9_1 p204 q204
                  cases e204
                  replace p204 := eq_true p204
                  replace q204 := eq_true q204
                  go_wp2_with (first | ((with_reducible refine gate_callee (f := 24) rfl ?_); refine goesL_ (some 15) rfl rfl Try.func24 (by kernel_rfl) rfl #[.int .i64 (rd l0 x9_1)] rfl (by (try simp only [List.map_toArray, List.map_cons, List.map_nil]); first | done | rfl | (simp only [List.length_drop, List.length_take]; rfl)) ?_; (with_reducible refine (vote_May.calls (rd l0 x9_1) true _ A5.out).mono ?_); rintro e w' ⟨rfl, ⟨nd, rfl⟩⟩; refine ⟨_, rfl, ?_⟩))
                  go_roundg k1
                  case measure => have := HK1.out; omega
                  case rel => exact ⟨(x3_1), (true), (wrap64 (x9_1 + 1)), (by first | rfl | (simp; done) | (simp [*]; done)), (by first | rfl | (simp; done) | (simp [*]; done)), (by first | rfl | (simp; done) | (simp [*]; done)), H', ⟨by have := HK1.out; omega⟩, by repeat (first | exact Drawn0.refl _ | apply Drawn0.step)⟩
                · rw [if_neg c8] at H
                  have c8b0 : ((rd l0 x9_1) == 0) = false := beq_eq_false_iff_ne.mpr c8
                  have c8b1 : ((rd l0 x9_1) != 0) = true := bne_iff_ne.mpr c8
                  by_cases c9 : (rd l0 x9_1) = 3
                  · rw [if_pos c9] at H
                    have c9b0 : ((rd l0 x9_1) == 3) = true := beq_iff_eq.mpr c9
                    have c9b1 : ((rd l0 x9_1) != 3) = false := bne_eq_false_iff_eq.mpr c9
                    clear c9
                    have H' := Aside0.mk H
                    clear H
                    have p204 : 0 ≤ (x9_1 : Int) := of_decide_eq_true (by first | (with_reducible assumption) | assumption)
                    have q204 : x9_1 < (l0.length : Int) := of_decide_eq_true (by first | (with_reducible assumption) | assumption)
                    obtain ⟨ad204, e204, hx204_0⟩ := Kd.at_int HR0.out x9_1 p204 q204
                    cases e204
                    replace p204 := eq_true p204
                    replace q204 := eq_true q204
                    go_wp2_with (first | ((with_reducible refine gate_callee (f := 24) rfl ?_); refine goesL_ (some 15) rfl rfl Try.func24 (by kernel_rfl) rfl #[.int .i64 (rd l0 x9_1)] rfl (by (try simp only [List.map_toArray, List.map_cons, List.map_nil]); first | done | rfl | (simp only [List.length_drop, List.length_take]; rfl)) ?_; (with_reducible refine (vote_May.calls (rd l0 x9_1) true _ A5.out).mono ?_); rintro e w' ⟨rfl, ⟨nd, rfl⟩⟩; refine ⟨_, rfl, ?_⟩))
                    go_roundg k1
                    case measure => have := HK1.out; omega
                    case rel => exact ⟨(x3_1), (true), (wrap64 (x9_1 + 1)), (by first | rfl | (simp; done) | (simp [*]; done)), (by first | rfl | (simp; done) | (simp [*]; done)), (by first | rfl | (simp; done) | (simp [*]; done)), H', ⟨by have := HK1.out; omega⟩, by repeat (first | exact Drawn0.refl _ | apply Drawn0.step)⟩
                  · rw [if_neg c9] at H
                    have c9b0 : ((rd l0 x9_1) == 3) = false := beq_eq_false_iff_ne.mpr c9
                    have c9b1 : ((rd l0 x9_1) != 3) = true := bne_iff_ne.mpr c9
                    have H' := Aside0.mk H
                    clear H
                    have p204 : 0 ≤ (x9_1 : Int) := of_decide_eq_true (by first | (with_reducible assumption) | assumption)
                    have q204 : x9_1 < (l0.length : Int) := of_decide_eq_true (by first | (with_reducible assumption) | assumption)
                    obtain ⟨ad204, e204, hx204_0⟩ := Kd.at_int HR0.out x9_1 p204 q204
                    cases e204
                    replace p204 := eq_true p204
                    replace q204 := eq_true q204
                    go_wp2_with (first | ((with_reducible refine gate_callee (f := 24) rfl ?_); refine goesL_ (some 15) rfl rfl Try.func24 (by kernel_rfl) rfl #[.int .i64 (rd l0 x9_1)] rfl (by (try simp only [List.map_toArray, List.map_cons, List.map_nil]); first | done | rfl | (simp only [List.length_drop, List.length_take]; rfl)) ?_; (with_reducible refine (vote_May.calls (rd l0 x9_1) true _ A5.out).mono ?_); rintro e w' ⟨rfl, ⟨nd, rfl⟩⟩; refine ⟨_, rfl, ?_⟩))
                    go_roundg k1
                    case measure => have := HK1.out; omega
                    case rel => exact ⟨(x3_1), (x4_1), (wrap64 (x9_1 + 1)), (by first | rfl | (simp; done) | (simp [*]; done)), (by first | rfl | (simp; done) | (simp [*]; done)), (by first | rfl | (simp; done) | (simp [*]; done)), H', ⟨by have := HK1.out; omega⟩, by repeat (first | exact Drawn0.refl _ | apply Drawn0.step)⟩
            · replace c6 := Bool.eq_false_iff.mpr c6
              subst c6
              have H1 : (some false) = some r := by rw [if_neg (show ¬ (false = true) by decide)] at H; exact H
              clear H
              have H := H1
              clear H1
              obtain rfl := Option.some.inj H
              have p204 : 0 ≤ (x9_1 : Int) := of_decide_eq_true (by first | (with_reducible assumption) | assumption)
              have q204 : x9_1 < (l0.length : Int) := of_decide_eq_true (by first | (with_reducible assumption) | assumption)
              obtain ⟨ad204, e204, hx204_0⟩ := Kd.at_int HR0.out x9_1 p204 q204
              cases e204
              replace p204 := eq_true p204
              replace q204 := eq_true q204
              go_wp2_with (first | ((with_reducible refine gate_callee (f := 24) rfl ?_); refine goesL_ (some 15) rfl rfl Try.func24 (by kernel_rfl) rfl #[.int .i64 (rd l0 x9_1)] rfl (by (try simp only [List.map_toArray, List.map_cons, List.map_nil]); first | done | rfl | (simp only [List.length_drop, List.length_take]; rfl)) ?_; (with_reducible refine (vote_May.calls (rd l0 x9_1) false _ A5.out).mono ?_); rintro e w' ⟨rfl, ⟨nd, rfl⟩⟩; refine ⟨_, rfl, ?_⟩))
              go_ret
              exact ⟨by first | rfl | (simp; done) | (simp [*]; done), by repeat (first | exact Drawn0.refl _ | apply Drawn0.step)⟩
          · rw [if_neg c4] at H
            exact absurd H (by simp)
        · rw [if_neg c3] at H
          exact absurd H (by simp)
      · rw [if_neg c2] at H
        have c2b0 : decide (x9_1 < (l0.length : Int)) = false := decide_eq_false c2
        clear c2
        by_cases c10 : x3_1 = true
        · subst c10
          have H1 : (some (!x4_1)) = some r := by rw [if_pos rfl] at H; exact H
          clear H
          have H := H1
          clear H1
          obtain rfl := Option.some.inj H
          go_wp2
          go_ret
          exact ⟨by first | rfl | (simp; done) | (simp [*]; done), by repeat (first | exact Drawn0.refl _ | apply Drawn0.step)⟩
        · replace c10 := Bool.eq_false_iff.mpr c10
          subst c10
          have H1 : (some true) = some r := by rw [if_neg (show ¬ (false = true) by decide)] at H; exact H
          clear H
          have H := H1
          clear H1
          obtain rfl := Option.some.inj H
          go_wp2
          go_ret
          exact ⟨by first | rfl | (simp; done) | (simp [*]; done), by repeat (first | exact Drawn0.refl _ | apply Drawn0.step)⟩

theorem peers_Safe.calls_n (k : Nat) (A0 : Option Addr) (n c0 : Nat) (l0 : List Int) (r : Bool) (w : World) (hn : l0.length = n) (hr0 : Kd.C (Kd.int .i64) w A0 l0.length l0) (hc0 : l0.length ≤ c0) (h : peers_Safe.f k l0 = some r) :
    Calls Try.prog 33 #[.slice A0 n c0] w fun e w' => e = .returned (.bool r) ∧ Drawn0 w w' := by
  subst hn
  exact peers_Safe.calls k A0 c0 l0 r w hr0 hc0 h

/-! ### wharfingerlaw14_awake: function 28 -/
def wharfingerlaw14_awake.f (k : Nat)  : Option (Bool) := (peers_Decide.f k (([1, 0] : List Int))).bind fun t209 => (if t209 = 14 then ((peers_Safe.f k (([2, 3] : List Int))).bind fun t213 => (if t213 = true then (some false) else ((peers_Safe.f k (([2, 5] : List Int))).bind fun t217 => (some t217)))) else (some false))
theorem wharfingerlaw14_awake.mono : ∀ k, LeO (wharfingerlaw14_awake.f k ) (wharfingerlaw14_awake.f (k + 1) ) := by
  intro  k
  unfold wharfingerlaw14_awake.f
  repeat' first
      | (with_reducible exact peers_Decide.mono _ _)
      | (with_reducible exact peers_Safe.mono _ _)
      | (with_reducible exact LeO.refl _)
      | (with_reducible exact LeO.none _)
      | (with_reducible refine LeO.ite ?_ ?_)
      | (with_reducible refine LeO.bind ?_ (fun _ => ?_))
      | exact peers_Decide.mono _ _
      | exact peers_Safe.mono _ _
      | exact LeO.none _
      | refine LeO.ite ?_ ?_
      | refine LeO.bind ?_ (fun _ => ?_)
set_option maxHeartbeats 8000000 in
set_option maxRecDepth 100000 in
theorem wharfingerlaw14_awake.calls (k : Nat)  (r : Bool) (w : World) (h : wharfingerlaw14_awake.f k  = some r) :
    Calls Try.prog 28 #[] w fun e w' => e = .returned (.bool r) ∧ Below w.heap.size w w' := by
  have HB := Aside0.mk (Below.refl w.heap.size w)
  have H : ((peers_Decide.f k (([1, 0] : List Int))).bind fun t209 => (if t209 = 14 then ((peers_Safe.f k (([2, 3] : List Int))).bind fun t213 => (if t213 = true then (some false) else ((peers_Safe.f k (([2, 5] : List Int))).bind fun t217 => (some t217)))) else (some false))) = some r := h
  clear h
  obtain ⟨y206, hy206⟩ : ∃ y_ : List Int, y_ = (([1, 0] : List Int)) := ⟨_, rfl⟩
  replace H : ((peers_Decide.f k y206).bind fun t209 => (if t209 = 14 then ((peers_Safe.f k (([2, 3] : List Int))).bind fun t213 => (if t213 = true then (some false) else ((peers_Safe.f k (([2, 5] : List Int))).bind fun t217 => (some t217)))) else (some false))) = some r := by first | (rw [hy206]; with_reducible exact H) | (have H2_ := (Option.bind_some _ _).symm.trans H; rw [hy206]; with_reducible exact H2_) | (have H2_ := (Option.bind_some _ _).symm.trans H; with_reducible exact H2_) | with_reducible exact H | (rw [hy206]; exact H) | exact H
  have Ny206 := Aside0.mk hy206
  clear hy206
  replace H := Option.bind_eq_some_iff.mp H
  obtain ⟨t209, A10, H⟩ := H
  replace H : (if t209 = 14 then ((peers_Safe.f k (([2, 3] : List Int))).bind fun t213 => (if t213 = true then (some false) else ((peers_Safe.f k (([2, 5] : List Int))).bind fun t217 => (some t217)))) else (some false)) = some r := H
  have A1 := Aside0.mk A10
  clear A10
  by_cases c2 : t209 = 14
  · rw [if_pos c2] at H
    have c2b0 : (t209 == 14) = true := beq_iff_eq.mpr c2
    have c2b1 : (t209 != 14) = false := bne_eq_false_iff_eq.mpr c2
    clear c2
    obtain ⟨y210, hy210⟩ : ∃ y_ : List Int, y_ = (([2, 3] : List Int)) := ⟨_, rfl⟩
    replace H : ((peers_Safe.f k y210).bind fun t213 => (if t213 = true then (some false) else ((peers_Safe.f k (([2, 5] : List Int))).bind fun t217 => (some t217)))) = some r := by first | (rw [hy210]; with_reducible exact H) | (have H2_ := (Option.bind_some _ _).symm.trans H; rw [hy210]; with_reducible exact H2_) | (have H2_ := (Option.bind_some _ _).symm.trans H; with_reducible exact H2_) | with_reducible exact H | (rw [hy210]; exact H) | exact H
    have Ny210 := Aside0.mk hy210
    clear hy210
    replace H := Option.bind_eq_some_iff.mp H
    obtain ⟨t213, A30, H⟩ := H
    replace H : (if t213 = true then (some false) else ((peers_Safe.f k (([2, 5] : List Int))).bind fun t217 => (some t217))) = some r := H
    have A3 := Aside0.mk A30
    clear A30
    by_cases c4 : t213 = true
    · subst c4
      have H1 : (some false) = some r := by rw [if_pos rfl] at H; exact H
      clear H
      have H := H1
      clear H1
      obtain rfl := Option.some.inj H
      go_enter Try.func28, Try.ntmps28
      go_wp2_with (first | ((with_reducible refine gate_dst (N := 1) rfl ?_); (try (refine gate_guard (by rfl) ?_; dsimp only)); refine Kd.R_lit (Kd.int .i64) _ 3 ?hg (N := 1) ?hd (xs := ([1, 0] : List Int)) (inner := [.int .i64 1, .int .i64 0]) (ok := fun _ => True) (okp := fun _ => True) ?hr ?hp (fun _ hk => hk) trivial (Below.refl _ _) (Nat.le_refl _) (by simp) ?_; (case hd => rfl); (case hg => rfl); (case hr => first | (go_simp; done) | (go_simp; rfl)); (case hp => exact (Reps.one (show Kd.M (Kd.int .i64) _ _ _ 1 [.int .i64 1] from rfl) (Reps.one (show Kd.M (Kd.int .i64) _ _ _ 0 [.int .i64 0] from rfl) (Reps.none _ _)))); intro v207 w5 ho6 hb hg_ hnew_; clear hg_ hnew_; (first | rw [← Ny206.out] at ho6 | (simp only [Int.reduceToNat] at ho6; rw [← Ny206.out] at ho6)); have n0_ := Aside0.mk (Kd.R_lower ho6 (below_size (by repeat (first | (with_reducible first | exact HB.out | apply below_alloc | apply pw_below_drewN | apply below_drew1) | exact HB.out)))); have n1_ := Aside0.mk (below_step (by repeat (first | (with_reducible first | exact HB.out | apply below_alloc | apply pw_below_drewN | apply below_drew1) | exact HB.out)) hb); clear HB; have HO208 := n0_; have HB := n1_; clear n0_ n1_; clear hb ho6; obtain ⟨Ao7, co7, eo7⟩ := Kd.R_slice HO208.out; subst eo7) | ((with_reducible refine gate_callee (f := 31) rfl ?_); refine goesL_ (some 2) rfl rfl Try.func31 (by kernel_rfl) rfl #[.slice Ao7 y206.length co7] rfl (by (try simp only [List.map_toArray, List.map_cons, List.map_nil]); first | done | rfl | (simp only [List.length_drop, List.length_take]; rfl)) ?_; (with_reducible refine (peers_Decide.calls k _ _ y206 t209 _ ?side1 ?side2 A1.out).mono ?_); (case side1 => repeat (first | exact (Kd.R_reads' HO208.out).2.2 | (with_reducible refine Kd.C_alloc ?_ _) | (with_reducible refine Kd.C_drewN ?_ _) | (with_reducible refine Kd.C_drew ?_))); (case side2 => exact (Kd.R_reads' HO208.out).2.1); rintro e w' ⟨rfl, ⟨nd, rfl⟩⟩; refine ⟨_, rfl, ?_⟩) | ((with_reducible refine gate_dst (N := 5) rfl ?_); (try (refine gate_guard (by rfl) ?_; dsimp only)); refine Kd.R_lit (Kd.int .i64) _ 3 ?hg (N := 5) ?hd (xs := ([2, 3] : List Int)) (inner := [.int .i64 2, .int .i64 3]) (ok := fun _ => True) (okp := fun _ => True) ?hr ?hp (fun _ hk => hk) trivial (Below.refl _ _) (Nat.le_refl _) (by simp) ?_; (case hd => rfl); (case hg => rfl); (case hr => first | (go_simp; done) | (go_simp; rfl)); (case hp => exact (Reps.one (show Kd.M (Kd.int .i64) _ _ _ 2 [.int .i64 2] from rfl) (Reps.one (show Kd.M (Kd.int .i64) _ _ _ 3 [.int .i64 3] from rfl) (Reps.none _ _)))); intro v211 w8 ho9 hb hg_ hnew_; clear hg_ hnew_; (first | rw [← Ny210.out] at ho9 | (simp only [Int.reduceToNat] at ho9; rw [← Ny210.out] at ho9)); have n0_ := Aside0.mk (Kd.R_elder' (by (with_reducible repeat (first | apply Kd.R_alloc | apply Kd.R_drewN | apply Kd.R_drew)); exact HO208.out) (Kd.R_base ho9) hb); have n1_ := Aside0.mk (Kd.R_lower (Kd.R_new' ho9 (Kd.R_lt (by (with_reducible repeat (first | apply Kd.R_alloc | apply Kd.R_drewN | apply Kd.R_drew)); exact HO208.out))) (below_size (by repeat (first | (with_reducible first | exact HB.out | apply below_alloc | apply pw_below_drewN | apply below_drew1) | exact HB.out)))); have n2_ := Aside0.mk (below_step (by repeat (first | (with_reducible first | exact HB.out | apply below_alloc | apply pw_below_drewN | apply below_drew1) | exact HB.out)) hb); clear HO208; clear HB; have HO208 := n0_; have HO212 := n1_; have HB := n2_; clear n0_ n1_ n2_; clear hb ho9; obtain ⟨Ao10, co10, eo10⟩ := Kd.R_slice HO212.out; subst eo10) | (go_at_call 33; (with_reducible refine (peers_Safe.calls k _ _ y210 true _ ?side1 ?side2 A3.out).mono ?_); (case side1 => repeat (first | exact (Kd.R_reads' HO212.out).2.2 | (with_reducible refine Kd.C_alloc ?_ _) | (with_reducible refine Kd.C_drewN ?_ _) | (with_reducible refine Kd.C_drew ?_))); (case side2 => exact (Kd.R_reads' HO212.out).2.1); rintro e w' ⟨rfl, ⟨nd, rfl⟩⟩))
      go_ret
      exact ⟨by first | rfl | (simp [errW_none, errW_some] <;> rfl) | (simp [*, errW_none, errW_some] <;> rfl), by repeat (first | (with_reducible first | exact HB.out | apply below_alloc | apply pw_below_drewN | apply below_drew1) | exact HB.out)⟩
    · replace c4 := Bool.eq_false_iff.mpr c4
      subst c4
      have H1 : ((peers_Safe.f k (([2, 5] : List Int))).bind fun t217 => (some t217)) = some r := by rw [if_neg (show ¬ (false = true) by decide)] at H; exact H
      clear H
      have H := H1
      clear H1
      obtain ⟨y214, hy214⟩ : ∃ y_ : List Int, y_ = (([2, 5] : List Int)) := ⟨_, rfl⟩
      replace H : ((peers_Safe.f k y214).bind fun t217 => (some t217)) = some r := by first | (rw [hy214]; with_reducible exact H) | (have H2_ := (Option.bind_some _ _).symm.trans H; rw [hy214]; with_reducible exact H2_) | (have H2_ := (Option.bind_some _ _).symm.trans H; with_reducible exact H2_) | with_reducible exact H | (rw [hy214]; exact H) | exact H
      have Ny214 := Aside0.mk hy214
      clear hy214
      replace H := Option.bind_eq_some_iff.mp H
      obtain ⟨t217, A110, H⟩ := H
      replace H : (some t217) = some r := H
      have A11 := Aside0.mk A110
      clear A110
      obtain rfl := Option.some.inj H
      go_enter Try.func28, Try.ntmps28
      go_wp2_with (first | ((with_reducible refine gate_dst (N := 1) rfl ?_); (try (refine gate_guard (by rfl) ?_; dsimp only)); refine Kd.R_lit (Kd.int .i64) _ 3 ?hg (N := 1) ?hd (xs := ([1, 0] : List Int)) (inner := [.int .i64 1, .int .i64 0]) (ok := fun _ => True) (okp := fun _ => True) ?hr ?hp (fun _ hk => hk) trivial (Below.refl _ _) (Nat.le_refl _) (by simp) ?_; (case hd => rfl); (case hg => rfl); (case hr => first | (go_simp; done) | (go_simp; rfl)); (case hp => exact (Reps.one (show Kd.M (Kd.int .i64) _ _ _ 1 [.int .i64 1] from rfl) (Reps.one (show Kd.M (Kd.int .i64) _ _ _ 0 [.int .i64 0] from rfl) (Reps.none _ _)))); intro v207 w12 ho13 hb hg_ hnew_; clear hg_ hnew_; (first | rw [← Ny206.out] at ho13 | (simp only [Int.reduceToNat] at ho13; rw [← Ny206.out] at ho13)); have n0_ := Aside0.mk (Kd.R_lower ho13 (below_size (by repeat (first | (with_reducible first | exact HB.out | apply below_alloc | apply pw_below_drewN | apply below_drew1) | exact HB.out)))); have n1_ := Aside0.mk (below_step (by repeat (first | (with_reducible first | exact HB.out | apply below_alloc | apply pw_below_drewN | apply below_drew1) | exact HB.out)) hb); clear HB; have HO208 := n0_; have HB := n1_; clear n0_ n1_; clear hb ho13; obtain ⟨Ao14, co14, eo14⟩ := Kd.R_slice HO208.out; subst eo14) | ((with_reducible refine gate_callee (f := 31) rfl ?_); refine goesL_ (some 2) rfl rfl Try.func31 (by kernel_rfl) rfl #[.slice Ao14 y206.length co14] rfl (by (try simp only [List.map_toArray, List.map_cons, List.map_nil]); first | done | rfl | (simp only [List.length_drop, List.length_take]; rfl)) ?_; (with_reducible refine (peers_Decide.calls k _ _ y206 t209 _ ?side1 ?side2 A1.out).mono ?_); (case side1 => repeat (first | exact (Kd.R_reads' HO208.out).2.2 | (with_reducible refine Kd.C_alloc ?_ _) | (with_reducible refine Kd.C_drewN ?_ _) | (with_reducible refine Kd.C_drew ?_))); (case side2 => exact (Kd.R_reads' HO208.out).2.1); rintro e w' ⟨rfl, ⟨nd, rfl⟩⟩; refine ⟨_, rfl, ?_⟩) | ((with_reducible refine gate_dst (N := 5) rfl ?_); (try (refine gate_guard (by rfl) ?_; dsimp only)); refine Kd.R_lit (Kd.int .i64) _ 3 ?hg (N := 5) ?hd (xs := ([2, 3] : List Int)) (inner := [.int .i64 2, .int .i64 3]) (ok := fun _ => True) (okp := fun _ => True) ?hr ?hp (fun _ hk => hk) trivial (Below.refl _ _) (Nat.le_refl _) (by simp) ?_; (case hd => rfl); (case hg => rfl); (case hr => first | (go_simp; done) | (go_simp; rfl)); (case hp => exact (Reps.one (show Kd.M (Kd.int .i64) _ _ _ 2 [.int .i64 2] from rfl) (Reps.one (show Kd.M (Kd.int .i64) _ _ _ 3 [.int .i64 3] from rfl) (Reps.none _ _)))); intro v211 w15 ho16 hb hg_ hnew_; clear hg_ hnew_; (first | rw [← Ny210.out] at ho16 | (simp only [Int.reduceToNat] at ho16; rw [← Ny210.out] at ho16)); have n0_ := Aside0.mk (Kd.R_elder' (by (with_reducible repeat (first | apply Kd.R_alloc | apply Kd.R_drewN | apply Kd.R_drew)); exact HO208.out) (Kd.R_base ho16) hb); have n1_ := Aside0.mk (Kd.R_lower (Kd.R_new' ho16 (Kd.R_lt (by (with_reducible repeat (first | apply Kd.R_alloc | apply Kd.R_drewN | apply Kd.R_drew)); exact HO208.out))) (below_size (by repeat (first | (with_reducible first | exact HB.out | apply below_alloc | apply pw_below_drewN | apply below_drew1) | exact HB.out)))); have n2_ := Aside0.mk (below_step (by repeat (first | (with_reducible first | exact HB.out | apply below_alloc | apply pw_below_drewN | apply below_drew1) | exact HB.out)) hb); clear HO208; clear HB; have HO208 := n0_; have HO212 := n1_; have HB := n2_; clear n0_ n1_ n2_; clear hb ho16; obtain ⟨Ao17, co17, eo17⟩ := Kd.R_slice HO212.out; subst eo17) | (go_at_call 33; (with_reducible refine (peers_Safe.calls k _ _ y210 false _ ?side1 ?side2 A3.out).mono ?_); (case side1 => repeat (first | exact (Kd.R_reads' HO212.out).2.2 | (with_reducible refine Kd.C_alloc ?_ _) | (with_reducible refine Kd.C_drewN ?_ _) | (with_reducible refine Kd.C_drew ?_))); (case side2 => exact (Kd.R_reads' HO212.out).2.1); rintro e w' ⟨rfl, ⟨nd, rfl⟩⟩) | ((with_reducible refine gate_dst (N := 10) rfl ?_); (try (refine gate_guard (by rfl) ?_; dsimp only)); refine Kd.R_lit (Kd.int .i64) _ 3 ?hg (N := 10) ?hd (xs := ([2, 5] : List Int)) (inner := [.int .i64 2, .int .i64 5]) (ok := fun _ => True) (okp := fun _ => True) ?hr ?hp (fun _ hk => hk) trivial (Below.refl _ _) (Nat.le_refl _) (by simp) ?_; (case hd => rfl); (case hg => rfl); (case hr => first | (go_simp; done) | (go_simp; rfl)); (case hp => exact (Reps.one (show Kd.M (Kd.int .i64) _ _ _ 2 [.int .i64 2] from rfl) (Reps.one (show Kd.M (Kd.int .i64) _ _ _ 5 [.int .i64 5] from rfl) (Reps.none _ _)))); intro v215 w18 ho19 hb hg_ hnew_; clear hg_ hnew_; (first | rw [← Ny214.out] at ho19 | (simp only [Int.reduceToNat] at ho19; rw [← Ny214.out] at ho19)); have n0_ := Aside0.mk (Kd.R_elder' (by (with_reducible repeat (first | apply Kd.R_alloc | apply Kd.R_drewN | apply Kd.R_drew)); exact HO208.out) (Kd.R_base ho19) hb); have n1_ := Aside0.mk (Kd.R_elder' (by (with_reducible repeat (first | apply Kd.R_alloc | apply Kd.R_drewN | apply Kd.R_drew)); exact HO212.out) (Kd.R_base ho19) hb); have n2_ := Aside0.mk (Kd.R_lower (Kd.R_new' (Kd.R_new' ho19 (Kd.R_lt (by (with_reducible repeat (first | apply Kd.R_alloc | apply Kd.R_drewN | apply Kd.R_drew)); exact HO208.out))) (Kd.R_lt (by (with_reducible repeat (first | apply Kd.R_alloc | apply Kd.R_drewN | apply Kd.R_drew)); exact HO212.out))) (below_size (by repeat (first | (with_reducible first | exact HB.out | apply below_alloc | apply pw_below_drewN | apply below_drew1) | exact HB.out)))); have n3_ := Aside0.mk (below_step (by repeat (first | (with_reducible first | exact HB.out | apply below_alloc | apply pw_below_drewN | apply below_drew1) | exact HB.out)) hb); clear HO208; clear HO212; clear HB; have HO208 := n0_; have HO212 := n1_; have HO216 := n2_; have HB := n3_; clear n0_ n1_ n2_ n3_; clear hb ho19; obtain ⟨Ao20, co20, eo20⟩ := Kd.R_slice HO216.out; subst eo20) | (go_at_call 33; (with_reducible refine (peers_Safe.calls k _ _ y214 t217 _ ?side1 ?side2 A11.out).mono ?_); (case side1 => repeat (first | exact (Kd.R_reads' HO216.out).2.2 | (with_reducible refine Kd.C_alloc ?_ _) | (with_reducible refine Kd.C_drewN ?_ _) | (with_reducible refine Kd.C_drew ?_))); (case side2 => exact (Kd.R_reads' HO216.out).2.1); rintro e w' ⟨rfl, ⟨nd, rfl⟩⟩))
      go_ret
      exact ⟨by first | rfl | (simp [errW_none, errW_some] <;> rfl) | (simp [*, errW_none, errW_some] <;> rfl), by repeat (first | (with_reducible first | exact HB.out | apply below_alloc | apply pw_below_drewN | apply below_drew1) | exact HB.out)⟩
  · rw [if_neg c2] at H
    have c2b0 : (t209 == 14) = false := beq_eq_false_iff_ne.mpr c2
    have c2b1 : (t209 != 14) = true := bne_iff_ne.mpr c2
    obtain rfl := Option.some.inj H
    go_enter Try.func28, Try.ntmps28
    go_wp2_with (first | ((with_reducible refine gate_dst (N := 1) rfl ?_); (try (refine gate_guard (by rfl) ?_; dsimp only)); refine Kd.R_lit (Kd.int .i64) _ 3 ?hg (N := 1) ?hd (xs := ([1, 0] : List Int)) (inner := [.int .i64 1, .int .i64 0]) (ok := fun _ => True) (okp := fun _ => True) ?hr ?hp (fun _ hk => hk) trivial (Below.refl _ _) (Nat.le_refl _) (by simp) ?_; (case hd => rfl); (case hg => rfl); (case hr => first | (go_simp; done) | (go_simp; rfl)); (case hp => exact (Reps.one (show Kd.M (Kd.int .i64) _ _ _ 1 [.int .i64 1] from rfl) (Reps.one (show Kd.M (Kd.int .i64) _ _ _ 0 [.int .i64 0] from rfl) (Reps.none _ _)))); intro v207 w21 ho22 hb hg_ hnew_; clear hg_ hnew_; (first | rw [← Ny206.out] at ho22 | (simp only [Int.reduceToNat] at ho22; rw [← Ny206.out] at ho22)); have n0_ := Aside0.mk (Kd.R_lower ho22 (below_size (by repeat (first | (with_reducible first | exact HB.out | apply below_alloc | apply pw_below_drewN | apply below_drew1) | exact HB.out)))); have n1_ := Aside0.mk (below_step (by repeat (first | (with_reducible first | exact HB.out | apply below_alloc | apply pw_below_drewN | apply below_drew1) | exact HB.out)) hb); clear HB; have HO208 := n0_; have HB := n1_; clear n0_ n1_; clear hb ho22; obtain ⟨Ao23, co23, eo23⟩ := Kd.R_slice HO208.out; subst eo23) | ((with_reducible refine gate_callee (f := 31) rfl ?_); refine goesL_ (some 2) rfl rfl Try.func31 (by kernel_rfl) rfl #[.slice Ao23 y206.length co23] rfl (by (try simp only [List.map_toArray, List.map_cons, List.map_nil]); first | done | rfl | (simp only [List.length_drop, List.length_take]; rfl)) ?_; (with_reducible refine (peers_Decide.calls k _ _ y206 t209 _ ?side1 ?side2 A1.out).mono ?_); (case side1 => repeat (first | exact (Kd.R_reads' HO208.out).2.2 | (with_reducible refine Kd.C_alloc ?_ _) | (with_reducible refine Kd.C_drewN ?_ _) | (with_reducible refine Kd.C_drew ?_))); (case side2 => exact (Kd.R_reads' HO208.out).2.1); rintro e w' ⟨rfl, ⟨nd, rfl⟩⟩; refine ⟨_, rfl, ?_⟩))
    go_ret
    exact ⟨by first | rfl | (simp [errW_none, errW_some] <;> rfl) | (simp [*, errW_none, errW_some] <;> rfl), by repeat (first | (with_reducible first | exact HB.out | apply below_alloc | apply pw_below_drewN | apply below_drew1) | exact HB.out)⟩

/-! ### wharfingerref12_Tells: function 30 -/
def wharfingerref12_Tells.f (a0 : Int) : Option (Int) := if a0 = 2 then (some 13) else (if a0 = 3 then (some 14) else (if a0 = 0 then (some 14) else (some 0)))
set_option maxHeartbeats 8000000 in
set_option maxRecDepth 100000 in
theorem wharfingerref12_Tells.calls (a0 : Int) (r : Int) (w : World) (h : wharfingerref12_Tells.f a0 = some r) :
    Calls Try.prog 30 #[.int .i64 a0] w fun e w' => e = .returned (.int .i64 r) ∧ Drawn0 w w' := by
  have H : (if a0 = 2 then (some 13) else (if a0 = 3 then (some 14) else (if a0 = 0 then (some 14) else (some 0)))) = some r := h
  clear h
  by_cases c2 : a0 = 2
  · rw [if_pos c2] at H
    have c2b0 : (a0 == 2) = true := beq_iff_eq.mpr c2
    have c2b1 : (a0 != 2) = false := bne_eq_false_iff_eq.mpr c2
    clear c2
    obtain rfl := Option.some.inj H
    go_enter Try.func30, Try.ntmps30
    go_wp2
    go_ret
    exact ⟨by first | rfl | (simp; done) | (simp [*]; done), by repeat (first | exact Drawn0.refl _ | apply Drawn0.step)⟩
  · rw [if_neg c2] at H
    have c2b0 : (a0 == 2) = false := beq_eq_false_iff_ne.mpr c2
    have c2b1 : (a0 != 2) = true := bne_iff_ne.mpr c2
    by_cases c3 : a0 = 3
    · rw [if_pos c3] at H
      have c3b0 : (a0 == 3) = true := beq_iff_eq.mpr c3
      have c3b1 : (a0 != 3) = false := bne_eq_false_iff_eq.mpr c3
      clear c3
      obtain rfl := Option.some.inj H
      go_enter Try.func30, Try.ntmps30
      go_wp2
      go_ret
      exact ⟨by first | rfl | (simp; done) | (simp [*]; done), by repeat (first | exact Drawn0.refl _ | apply Drawn0.step)⟩
    · rw [if_neg c3] at H
      have c3b0 : (a0 == 3) = false := beq_eq_false_iff_ne.mpr c3
      have c3b1 : (a0 != 3) = true := bne_iff_ne.mpr c3
      by_cases c4 : a0 = 0
      · rw [if_pos c4] at H
        have c4b0 : (a0 == 0) = true := beq_iff_eq.mpr c4
        have c4b1 : (a0 != 0) = false := bne_eq_false_iff_eq.mpr c4
        clear c4
        obtain rfl := Option.some.inj H
        go_enter Try.func30, Try.ntmps30
        go_wp2
        go_ret
        exact ⟨by first | rfl | (simp; done) | (simp [*]; done), by repeat (first | exact Drawn0.refl _ | apply Drawn0.step)⟩
      · rw [if_neg c4] at H
        have c4b0 : (a0 == 0) = false := beq_eq_false_iff_ne.mpr c4
        have c4b1 : (a0 != 0) = true := bne_iff_ne.mpr c4
        obtain rfl := Option.some.inj H
        go_enter Try.func30, Try.ntmps30
        go_wp2
        go_ret
        exact ⟨by first | rfl | (simp; done) | (simp [*]; done), by repeat (first | exact Drawn0.refl _ | apply Drawn0.step)⟩

end Go.Proofs.Ytnchlddbcomokab.Hh

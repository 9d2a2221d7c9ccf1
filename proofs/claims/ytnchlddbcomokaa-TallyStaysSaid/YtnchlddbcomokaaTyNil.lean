/- What every program must know of a tally (awake), and TallyNil: a tally that there isn't. -/
import Derived.Test.YtnchlddbcomokaaTy
namespace Go.Proofs.Ytnchlddbcomokaa.Ty
open Go.RowKit Go.Proofs.YtnchlddbcomokaaW.PrintWords Go.Proofs.YtnchlddbcomokaaW.PrintLast Go.Proofs.YtnchlddbcomokaaW.PrintMore
set_option linter.unusedVariables false
set_option linter.unusedSimpArgs false

set_option maxHeartbeats 2000000 in
theorem awake_ (w : World) : Calls Try.prog 33 #[] w fun e w' => e = .returned (.bool true) ∧ Below w.heap.size w w' := by
  go_enter Try.func33, Try.ntmps33
  go_wp2_with (go_at_call 22; (with_reducible refine (new_ 2 _ (by omega) (by omega)).mono ?_); rintro e w1 ⟨bt, bs, rfl, h1, h2, T0, hb1⟩; have H0 := Aside0.mk T0; have HB := Aside0.mk hb1; have HT := Aside0.mk h1; have HS := Aside0.mk h2; clear T0 hb1 h1 h2)
  have T0 : Tal _ bt bs [0, 0] false false := H0.out
  refine (say_yes_ _ bt bs [0, 0] false T0 0 (by decide) (.inl rfl)).mono ?_
  rintro e w2 ⟨rfl, T1, f1⟩
  have H1 : Aside0 (Tal w2 bt bs [1, 0] false false) := ⟨T1⟩
  have HF1 := Aside0.mk f1
  clear T0 T1 f1 H0
  go_wp2_with (fail)
  refine (say_yes_ _ bt bs [1, 0] false H1.out 1 (by decide) (.inl rfl)).mono ?_
  rintro e w3 ⟨rfl, T2, f2⟩
  have H2 : Aside0 (Tal w3 bt bs [1, 1] true true) := ⟨T2⟩
  have HF := Aside0.mk (HF1.out.trans f2)
  clear T2 f2 H1 HF1
  go_wp2_with (go_at_call 28; (with_reducible refine (outcome_ _ bt bs [1, 1] true true H2.out).mono ?_); rintro e w4 ⟨rfl, ⟨nd, rfl⟩⟩)
  go_ret
  exact ⟨rfl, by repeat (first | (with_reducible first | exact HF.out.below HB.out (fun k hk => by rcases hk with rfl | rfl; exact HT.out; exact HS.out) HB.out.size | apply pw_below_drewN) | exact HF.out.below HB.out (fun k hk => by rcases hk with rfl | rfl; exact HT.out; exact HS.out) HB.out.size)⟩
set_option maxHeartbeats 2000000 in
theorem nil_law (c : Bool) (i : Int) (y : Bool) (w : World) : Calls Try.prog 10 #[.agg #[.bool c, .int .i64 i, .bool y]] w fun e w' => e = .returned (.bool true) ∧ Below w.heap.size w w' := by
  have HB := Aside0.mk (below_alloc (Below.refl w.heap.size w) (.cells #[.bool c, .int .i64 i, .bool y] 38))
  go_enter Try.func10, Try.ntmps10
  go_wp2_with (first | (go_at_call 24; (with_reducible refine (close_nil _).mono ?_); rintro e w' ⟨rfl, rfl⟩) | (go_at_call 28; (with_reducible refine (outcome_nil _).mono ?_); rintro e w' ⟨rfl, rfl⟩) | (go_at_call 26; (with_reducible refine (say_nil _ i y).mono ?_); rintro e w' ⟨rfl, rfl⟩) | (go_at_call 31; (with_reducible refine (waits_nil _).mono ?_); rintro e w' ⟨rfl, rfl⟩) | (go_at_call 33; (with_reducible refine (awake_ _).mono ?_); rintro e w' ⟨rfl, hb⟩; have HB2 := Aside0.mk hb; clear hb))
  go_ret
  exact ⟨rfl, HB.out.trans (HB2.out.mono HB.out.size)⟩
end Go.Proofs.Ytnchlddbcomokaa.Ty

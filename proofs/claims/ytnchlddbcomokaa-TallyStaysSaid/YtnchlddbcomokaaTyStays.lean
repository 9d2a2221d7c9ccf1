/- TallyStays: what is decided stays, and it is for it just if all said yes and nobody closed it ahead of that. -/
import Derived.Test.YtnchlddbcomokaaTyT
import Derived.Test.YtnchlddbcomokaaTyPlays
namespace Go.Proofs.Ytnchlddbcomokaa.Ty
open Go.RowKit Go.Proofs.YtnchlddbcomokaaW.PrintWords Go.Proofs.YtnchlddbcomokaaW.PrintLast Go.Proofs.YtnchlddbcomokaaW.PrintMore
set_option linter.unusedVariables false
set_option linter.unusedSimpArgs false
theorem J.no2 {xs : List Int} {o c : Bool} (h : J xs false o c) (k : Nat) (hk : k < xs.length) : xs.getD k 0 ≠ 2 := by
  intro e2
  have hmem : (2 : Int) ∈ xs := by rw [← e2, List.getD_eq_getElem?_getD, List.getElem?_eq_getElem hk]; exact List.getElem_mem hk
  have e := h.out
  rw [ro_is xs c h.in3, if_pos hmem] at e
  cases e
theorem J.wt_open {xs : List Int} {o c : Bool} (h : J xs false o c) : wt xs 0 ≠ [] := by
  intro hw
  have e := h.out
  rw [ro_is xs c h.in3] at e
  by_cases h2 : (2 : Int) ∈ xs
  · rw [if_pos h2] at e; cases e
  · rw [if_neg h2, if_pos hw] at e; cases e
theorem most_small (m : Nat) (h1 : 1 ≤ m) (h2 : m ≤ 6) : most (m : Int) = m := by unfold most; omega
set_option maxHeartbeats 60000000 in
set_option maxRecDepth 100000 in
theorem stays_law (n : Int) (hn : -9223372036854775808 ≤ n ∧ n ≤ 9223372036854775807) (a : Option Addr) (len cap : Nat) (cs : List (Bool × Int × Bool)) (w : World) (hcs : CallsAt w a len cap cs) :
    Calls Try.prog 11 #[.int .i64 n, .slice a len cap] w fun e w' => e = .returned (.bool true) ∧ Below w.heap.size w w' := by
  obtain ⟨hl, hlc, hcm, hr, hat⟩ := hcs
  subst hl
  unfold maxLen at hcm
  have HR := Aside0.mk hr
  have HAT := Aside0.mk hat
  clear hr hat
  obtain ⟨q, hq, eq⟩ := rem_ n 6 (by omega) (by omega)
  go_enter Try.func11, Try.ntmps11
  go_wp2_with (fail)
  generalize wrap64 ((IntKind.u64.wrap n).tmod 6) = y at *
  subst eq
  have eN : (1 + (q : Int)) = ((q + 1 : Nat) : Int) := by omega
  rw [eN]
  have hm1 : 1 ≤ q + 1 := by omega
  have hm6 : q + 1 ≤ 6 := by omega
  generalize q + 1 = m at *
  refine (new_ (m : Int) _ (by omega) (by omega)).mono ?_
  rintro e w1 ⟨bt, bs, rfl, h1, h2, T0, hb1⟩
  rw [most_small m hm1 hm6] at T0
  have H0 := Aside0.mk (Sta.new hm6 h1 h2 T0 hb1)
  have HJ0 := Aside0.mk (J.new m hm1)
  clear h1 h2 T0 hb1
  go_wp2
  generalize w1.heap.size = b at *
  go_loopg [7, 8, 9, 29] cs.length (fun gq v7 v8 v9 v29 w' => ∃ (n : Nat) (xs : List Int) (d o c : Bool), v29 = .int .i64 (n : Int) ∧ n ≤ cs.length ∧ v7 = .bool o ∧ v8 = .bool d ∧ v9 = .bool c ∧ Aside0 (gq + n = cs.length) ∧ Aside0 (Sta w w' b bt bs m xs xs d o) ∧ Aside0 (J xs d o c))
  case atStart => exact ⟨0, _, false, false, false, rfl, Nat.zero_le _, rfl, rfl, rfl, ⟨by simp⟩, H0, HJ0⟩
  case round =>
    clear H0 HJ0
    rename_i w3
    obtain ⟨n, xs, d, o, c, rfl, hn, rfl, rfl, rfl, HG, HB, HJ⟩ := hrel
    by_cases hlt : n < cs.length
    · obtain ⟨ad, rfl, hat⟩ := HAT.out (by omega)
      have hc0 := (hat n hlt).1
      have hc1 := (hat n hlt).2.1
      have hc2 := (hat n hlt).2.2
      have hr1 := HR.out cs[n] (List.getElem_mem hlt)
      replace hc0 := (HB.out.hb.cell (World.block_lt_of_cell? w _ hc0)).trans hc0
      replace hc1 := (HB.out.hb.cell (World.block_lt_of_cell? w _ hc1)).trans hc1
      replace hc2 := (HB.out.hb.cell (World.block_lt_of_cell? w _ hc2)).trans hc2
      rw [add_field ad (n * 3) 1 (by omega)] at hc1
      rw [add_field ad (n * 3) 2 (by omega)] at hc2
      clear hat
      generalize cs[n] = cc at *
      obtain ⟨cl, ci, cy⟩ := cc
      simp only at hc0 hc1 hc2 hr1
      by_cases h100 : 100 ≤ n
      · have HX := Aside0.mk (HB.out.below (below_alloc (Below.refl _ _) (.cells #[.bool cl, .int .i64 ci, .bool cy] 38)))
        go_wp2_with (fail)
        refine (awake_ _).mono ?_
        rintro e w5 ⟨rfl, hb5⟩
        have HB5 := Aside0.mk hb5
        clear hb5
        go_wp2
        go_ret
        exact ⟨rfl, HX.out.hb.trans (HB5.out.mono HX.out.hb.size)⟩
      · cases cl
        · obtain ⟨k, hk, ek⟩ := rem_ ci (m : Int) (by omega) (by omega)
          have HB1 := Aside0.mk (HB.out.below (below_alloc (Below.refl _ _) (.cells #[.bool false, .int .i64 ci, .bool cy] 38)))
          have hkx : k < xs.length := by rw [HB1.out.len]; omega
          have hk6 : k < 6 := by omega
          have hsz : wr.heap.size ≠ bt ∧ wr.heap.size ≠ bs := ⟨by have := HB.out.T.it; omega, by have := HB.out.T.is_; omega⟩
          cases d
          · obtain ⟨rfl, rfl⟩ := HJ.out.od rfl
            have hn2 := HJ.out.no2 k hkx
            have h01 : xs.getD k 0 = 0 ∨ xs.getD k 0 = 1 := by have h := in3_of HJ.out.in3 k hkx; omega
            have hj := HJ.out.say (k : Int) cy
            cases cy
            · rcases h01 with hs | hs
              · have es : sayF xs false false (k : Int) false = (true, xs.set k 2, true, false) := by
                  unfold sayF
                  rw [if_pos ⟨by omega, by omega, rfl, by rw [Int.toNat_natCast]; exact .inl hs⟩, Int.toNat_natCast, if_neg (by simp)]
                rw [es] at hj
                have HJ5 := Aside0.mk hj.2.2
                clear hj
                have e2 : (wr.alloc (.cells #[.bool false, .int .i64 ci, .bool false] 38)).cell? ⟨wr.heap.size, 2, none⟩ = some (.bool false) := by go_simp
                go_wp2_with (fail)
                generalize wrap64 ((IntKind.u64.wrap ci).tmod _) = y at *
                subst ek
                clear hc0 hc1 hc2
                refine (say_no_ _ bt bs xs false HB1.out.T k hkx (.inl hs)).mono ?_
                rintro e w4 ⟨rfl, T4, f4⟩
                have e3 : w4.cell? ⟨wr.heap.size, 2, none⟩ = some (.bool false) := (cell_of (f4.block wr.heap.size (by simp) (fun h => (show wr.heap.size = bt ∨ wr.heap.size = bs from h).elim hsz.1 hsz.2)) 2).trans e2
                have H4 := Aside0.mk (HB1.out.say T4 f4 (by rw [List.length_set]; exact HB1.out.len))
                clear T4 f4 e2
                obtain ⟨hx, hxf⟩ := H4.out.sn k (by omega)
                rw [hs] at hx
                simp only [sg] at hx
                go_wp2_with (fail)
                have H5 := Aside0.mk (H4.out.mark k (by omega) 2 (-1) rfl)
                clear hx hxf e3
                refine (outcome_ _ bt bs (xs.set k 2) true false (by exact (H5.out.below (by repeat (first | (with_reducible first | exact Below.refl _ _ | apply pw_below_drewN) | exact Below.refl _ _))).T)).mono ?_
                rintro e w6 ⟨rfl, ⟨nd1, rfl⟩⟩
                go_wp2
                rw [slice_said _ b m hm1 hm6]
                go_simp
                go_wp2
                go_loopg [16, 89] m (fun g2 v16 v89 w' => ∃ i : Nat, v89 = .int .i64 (i : Int) ∧ i ≤ m ∧ v16 = .int .i64 ((ones (List.take i (xs.set k 2)) : Nat) : Int) ∧ Aside0 (g2 + i = m) ∧ Aside0 (Sta w w' b bt bs m (xs.set k 2) (xs.set k 2) true false))
                case atStart => exact ⟨0, rfl, Nat.zero_le _, rfl, ⟨by simp⟩, ⟨H5.out.below (by repeat (first | (with_reducible first | exact Below.refl _ _ | apply pw_below_drewN) | exact Below.refl _ _))⟩⟩
                case round =>
                  rename_i w8
                  obtain ⟨i, rfl, hi, rfl, HG2, HS⟩ := hrel
                  have hol := ones_le (xs.set k 2)
                  rw [HS.out.len] at hol
                  have hil6 : m ≤ 6 := hm6
                  by_cases hil : i < m
                  · have hx := (HS.out.sn i (by omega)).1
                    have hot := ones_take (xs.set k 2) i (by rw [HS.out.len]; exact hil)
                    have hop := ones_le (List.take i (xs.set k 2))
                    rw [List.length_take] at hop
                    by_cases h1 : ((xs.set k 2)).getD i 0 = 1
                    · rw [h1, show sg 1 = 1 from rfl] at hx
                      rw [if_pos h1] at hot
                      go_wp2
                      go_roundg (m - (i + 1))
                      case measure => have := HG2.out; omega
                      case rel => exact ⟨i + 1, by go_num, hil, congrArg (Value.int .i64) (by omega), ⟨by omega⟩, HS⟩
                    · have hs : ¬ 0 < sg (((xs.set k 2)).getD i 0) := by rw [sg_pos]; exact h1
                      rw [if_neg h1] at hot
                      generalize sg (((xs.set k 2)).getD i 0) = u at *
                      go_wp2
                      go_roundg (m - (i + 1))
                      case measure => have := HG2.out; omega
                      case rel => exact ⟨i + 1, by go_num, hil, congrArg (Value.int .i64) (by omega), ⟨by omega⟩, HS⟩
                  · have hO : ones (List.take i (xs.set k 2)) = ones (xs.set k 2) := by rw [List.take_of_length_le (by rw [HS.out.len]; omega)]
                    rw [hO]
                    have ho := HJ5.out.o_is
                    rw [HS.out.len] at ho
                    have hoi : ¬ ones (xs.set k 2) = m := of_decide_eq_false ho.symm
                    clear ho hO
                    go_wp2
                    go_roundg (cs.length - (n + 1))
                    case measure => have := HG.out; omega
                    case rel => exact ⟨n + 1, _, true, false, false, by go_num, hlt, rfl, rfl, rfl, ⟨by omega⟩, HS, HJ5⟩
              · go_wp2_with (fail)
                generalize wrap64 ((IntKind.u64.wrap ci).tmod _) = y at *
                subst ek
                clear hc0 hc1 hc2
                refine (say_said _ bt bs xs false HB1.out.T k false hkx (by omega) (by rw [hs]; decide)).mono ?_
                rintro e w4 ⟨rfl, rfl⟩
                go_wp2_with (fail)
                refine (outcome_ _ bt bs xs false false (by exact (HB1.out.below (by repeat (first | (with_reducible first | exact Below.refl _ _ | apply pw_below_drewN) | exact Below.refl _ _))).T)).mono ?_
                rintro e w6 ⟨rfl, ⟨nd1, rfl⟩⟩
                go_wp2
                rw [slice_said _ b m hm1 hm6]
                go_simp
                go_wp2
                go_loopg [16, 89] m (fun g2 v16 v89 w' => ∃ i : Nat, v89 = .int .i64 (i : Int) ∧ i ≤ m ∧ v16 = .int .i64 ((ones (List.take i xs) : Nat) : Int) ∧ Aside0 (g2 + i = m) ∧ Aside0 (Sta w w' b bt bs m xs xs false false))
                case atStart => exact ⟨0, rfl, Nat.zero_le _, rfl, ⟨by simp⟩, ⟨HB1.out.below (by repeat (first | (with_reducible first | exact Below.refl _ _ | apply pw_below_drewN) | exact Below.refl _ _))⟩⟩
                case round =>
                  rename_i w8
                  obtain ⟨i, rfl, hi, rfl, HG2, HS⟩ := hrel
                  have hol := ones_le xs
                  rw [HS.out.len] at hol
                  have hil6 : m ≤ 6 := hm6
                  by_cases hil : i < m
                  · have hx := (HS.out.sn i (by omega)).1
                    have hot := ones_take xs i (by rw [HS.out.len]; exact hil)
                    have hop := ones_le (List.take i xs)
                    rw [List.length_take] at hop
                    by_cases h1 : (xs).getD i 0 = 1
                    · rw [h1, show sg 1 = 1 from rfl] at hx
                      rw [if_pos h1] at hot
                      go_wp2
                      go_roundg (m - (i + 1))
                      case measure => have := HG2.out; omega
                      case rel => exact ⟨i + 1, by go_num, hil, congrArg (Value.int .i64) (by omega), ⟨by omega⟩, HS⟩
                    · have hs : ¬ 0 < sg ((xs).getD i 0) := by rw [sg_pos]; exact h1
                      rw [if_neg h1] at hot
                      generalize sg ((xs).getD i 0) = u at *
                      go_wp2
                      go_roundg (m - (i + 1))
                      case measure => have := HG2.out; omega
                      case rel => exact ⟨i + 1, by go_num, hil, congrArg (Value.int .i64) (by omega), ⟨by omega⟩, HS⟩
                  · have hO : ones (List.take i xs) = ones xs := by rw [List.take_of_length_le (by rw [HS.out.len]; omega)]
                    rw [hO]
                    have ho := HJ.out.o_is
                    rw [HS.out.len] at ho
                    have hoi : ¬ ones xs = m := of_decide_eq_false ho.symm
                    clear ho hO
                    go_wp2
                    go_roundg (cs.length - (n + 1))
                    case measure => have := HG.out; omega
                    case rel => exact ⟨n + 1, _, false, false, false, by go_num, hlt, rfl, rfl, rfl, ⟨by omega⟩, HS, HJ⟩
            · rcases h01 with hs | hs
              · have es : sayF xs false false (k : Int) true = (true, xs.set k 1, decide (wt (xs.set k 1) 0 = []), if wt (xs.set k 1) 0 = [] then true else false) := by
                  unfold sayF
                  rw [if_pos ⟨by omega, by omega, rfl, by rw [Int.toNat_natCast]; exact .inl hs⟩, Int.toNat_natCast, if_pos rfl]
                rw [es] at hj
                have HJ5 := Aside0.mk hj.2.2
                clear hj
                have e2 : (wr.alloc (.cells #[.bool false, .int .i64 ci, .bool true] 38)).cell? ⟨wr.heap.size, 2, none⟩ = some (.bool true) := by go_simp
                go_wp2_with (fail)
                generalize wrap64 ((IntKind.u64.wrap ci).tmod _) = y at *
                subst ek
                clear hc0 hc1 hc2
                refine (say_yes_ _ bt bs xs false HB1.out.T k hkx (.inl hs)).mono ?_
                rintro e w4 ⟨rfl, T4, f4⟩
                have e3 : w4.cell? ⟨wr.heap.size, 2, none⟩ = some (.bool true) := (cell_of (f4.block wr.heap.size (by simp) (fun h => (show wr.heap.size = bt ∨ wr.heap.size = bs from h).elim hsz.1 hsz.2)) 2).trans e2
                have H4 := Aside0.mk (HB1.out.say T4 f4 (by rw [List.length_set]; exact HB1.out.len))
                clear T4 f4 e2
                obtain ⟨hx, hxf⟩ := H4.out.sn k (by omega)
                rw [hs] at hx
                simp only [sg] at hx
                go_wp2_with (fail)
                have H5 := Aside0.mk (H4.out.mark k (by omega) 1 1 rfl)
                clear hx hxf e3
                by_cases hz : wt (xs.set k 1) 0 = []
                · rw [if_pos hz, decide_eq_true hz] at H5
                  simp only [if_pos hz, decide_eq_true hz] at HJ5
                  refine (outcome_ _ bt bs (xs.set k 1) true true (by exact (H5.out.below (by repeat (first | (with_reducible first | exact Below.refl _ _ | apply pw_below_drewN) | exact Below.refl _ _))).T)).mono ?_
                  rintro e w6 ⟨rfl, ⟨nd1, rfl⟩⟩
                  go_wp2
                  rw [slice_said _ b m hm1 hm6]
                  go_simp
                  go_wp2
                  go_loopg [16, 89] m (fun g2 v16 v89 w' => ∃ i : Nat, v89 = .int .i64 (i : Int) ∧ i ≤ m ∧ v16 = .int .i64 ((ones (List.take i (xs.set k 1)) : Nat) : Int) ∧ Aside0 (g2 + i = m) ∧ Aside0 (Sta w w' b bt bs m (xs.set k 1) (xs.set k 1) true true))
                  case atStart => exact ⟨0, rfl, Nat.zero_le _, rfl, ⟨by simp⟩, ⟨H5.out.below (by repeat (first | (with_reducible first | exact Below.refl _ _ | apply pw_below_drewN) | exact Below.refl _ _))⟩⟩
                  case round =>
                    rename_i w8
                    obtain ⟨i, rfl, hi, rfl, HG2, HS⟩ := hrel
                    have hol := ones_le (xs.set k 1)
                    rw [HS.out.len] at hol
                    have hil6 : m ≤ 6 := hm6
                    by_cases hil : i < m
                    · have hx := (HS.out.sn i (by omega)).1
                      have hot := ones_take (xs.set k 1) i (by rw [HS.out.len]; exact hil)
                      have hop := ones_le (List.take i (xs.set k 1))
                      rw [List.length_take] at hop
                      by_cases h1 : ((xs.set k 1)).getD i 0 = 1
                      · rw [h1, show sg 1 = 1 from rfl] at hx
                        rw [if_pos h1] at hot
                        go_wp2
                        go_roundg (m - (i + 1))
                        case measure => have := HG2.out; omega
                        case rel => exact ⟨i + 1, by go_num, hil, congrArg (Value.int .i64) (by omega), ⟨by omega⟩, HS⟩
                      · have hs : ¬ 0 < sg (((xs.set k 1)).getD i 0) := by rw [sg_pos]; exact h1
                        rw [if_neg h1] at hot
                        generalize sg (((xs.set k 1)).getD i 0) = u at *
                        go_wp2
                        go_roundg (m - (i + 1))
                        case measure => have := HG2.out; omega
                        case rel => exact ⟨i + 1, by go_num, hil, congrArg (Value.int .i64) (by omega), ⟨by omega⟩, HS⟩
                    · have hO : ones (List.take i (xs.set k 1)) = ones (xs.set k 1) := by rw [List.take_of_length_le (by rw [HS.out.len]; omega)]
                      rw [hO]
                      have ho := HJ5.out.o_is
                      rw [HS.out.len] at ho
                      have hoi : ones (xs.set k 1) = m := of_decide_eq_true ho.symm
                      clear ho hO
                      go_wp2
                      go_roundg (cs.length - (n + 1))
                      case measure => have := HG.out; omega
                      case rel => exact ⟨n + 1, _, true, true, false, by go_num, hlt, rfl, rfl, rfl, ⟨by omega⟩, HS, HJ5⟩
                · rw [if_neg hz, decide_eq_false hz] at H5
                  simp only [if_neg hz, decide_eq_false hz] at HJ5
                  refine (outcome_ _ bt bs (xs.set k 1) false false (by exact (H5.out.below (by repeat (first | (with_reducible first | exact Below.refl _ _ | apply pw_below_drewN) | exact Below.refl _ _))).T)).mono ?_
                  rintro e w6 ⟨rfl, ⟨nd1, rfl⟩⟩
                  go_wp2
                  rw [slice_said _ b m hm1 hm6]
                  go_simp
                  go_wp2
                  go_loopg [16, 89] m (fun g2 v16 v89 w' => ∃ i : Nat, v89 = .int .i64 (i : Int) ∧ i ≤ m ∧ v16 = .int .i64 ((ones (List.take i (xs.set k 1)) : Nat) : Int) ∧ Aside0 (g2 + i = m) ∧ Aside0 (Sta w w' b bt bs m (xs.set k 1) (xs.set k 1) false false))
                  case atStart => exact ⟨0, rfl, Nat.zero_le _, rfl, ⟨by simp⟩, ⟨H5.out.below (by repeat (first | (with_reducible first | exact Below.refl _ _ | apply pw_below_drewN) | exact Below.refl _ _))⟩⟩
                  case round =>
                    rename_i w8
                    obtain ⟨i, rfl, hi, rfl, HG2, HS⟩ := hrel
                    have hol := ones_le (xs.set k 1)
                    rw [HS.out.len] at hol
                    have hil6 : m ≤ 6 := hm6
                    by_cases hil : i < m
                    · have hx := (HS.out.sn i (by omega)).1
                      have hot := ones_take (xs.set k 1) i (by rw [HS.out.len]; exact hil)
                      have hop := ones_le (List.take i (xs.set k 1))
                      rw [List.length_take] at hop
                      by_cases h1 : ((xs.set k 1)).getD i 0 = 1
                      · rw [h1, show sg 1 = 1 from rfl] at hx
                        rw [if_pos h1] at hot
                        go_wp2
                        go_roundg (m - (i + 1))
                        case measure => have := HG2.out; omega
                        case rel => exact ⟨i + 1, by go_num, hil, congrArg (Value.int .i64) (by omega), ⟨by omega⟩, HS⟩
                      · have hs : ¬ 0 < sg (((xs.set k 1)).getD i 0) := by rw [sg_pos]; exact h1
                        rw [if_neg h1] at hot
                        generalize sg (((xs.set k 1)).getD i 0) = u at *
                        go_wp2
                        go_roundg (m - (i + 1))
                        case measure => have := HG2.out; omega
                        case rel => exact ⟨i + 1, by go_num, hil, congrArg (Value.int .i64) (by omega), ⟨by omega⟩, HS⟩
                    · have hO : ones (List.take i (xs.set k 1)) = ones (xs.set k 1) := by rw [List.take_of_length_le (by rw [HS.out.len]; omega)]
                      rw [hO]
                      have ho := HJ5.out.o_is
                      rw [HS.out.len] at ho
                      have hoi : ¬ ones (xs.set k 1) = m := of_decide_eq_false ho.symm
                      clear ho hO
                      go_wp2
                      go_roundg (cs.length - (n + 1))
                      case measure => have := HG.out; omega
                      case rel => exact ⟨n + 1, _, false, false, false, by go_num, hlt, rfl, rfl, rfl, ⟨by omega⟩, HS, HJ5⟩
              · have hsame := set_same xs k hkx 1 hs
                have hz : wt xs 0 ≠ [] := HJ.out.wt_open
                have e2 : (wr.alloc (.cells #[.bool false, .int .i64 ci, .bool true] 38)).cell? ⟨wr.heap.size, 2, none⟩ = some (.bool true) := by go_simp
                go_wp2_with (fail)
                generalize wrap64 ((IntKind.u64.wrap ci).tmod _) = y at *
                subst ek
                clear hc0 hc1 hc2
                refine (say_yes_ _ bt bs xs false HB1.out.T k hkx (.inr hs)).mono ?_
                rintro e w4 ⟨rfl, T4, f4⟩
                have e3 : w4.cell? ⟨wr.heap.size, 2, none⟩ = some (.bool true) := (cell_of (f4.block wr.heap.size (by simp) (fun h => (show wr.heap.size = bt ∨ wr.heap.size = bs from h).elim hsz.1 hsz.2)) 2).trans e2
                have H4 := Aside0.mk (HB1.out.say T4 f4 (by rw [List.length_set]; exact HB1.out.len))
                clear T4 f4 e2
                obtain ⟨hx, hxf⟩ := H4.out.sn k (by omega)
                rw [hs] at hx
                simp only [sg] at hx
                go_wp2_with (fail)
                have H5 := Aside0.mk (H4.out.mark k (by omega) 1 1 rfl)
                clear hx hxf e3
                rw [hsame, if_neg hz, decide_eq_false hz] at H5
                refine (outcome_ _ bt bs xs false false (by exact (H5.out.below (by repeat (first | (with_reducible first | exact Below.refl _ _ | apply pw_below_drewN) | exact Below.refl _ _))).T)).mono ?_
                rintro e w6 ⟨rfl, ⟨nd1, rfl⟩⟩
                go_wp2
                rw [slice_said _ b m hm1 hm6]
                go_simp
                go_wp2
                go_loopg [16, 89] m (fun g2 v16 v89 w' => ∃ i : Nat, v89 = .int .i64 (i : Int) ∧ i ≤ m ∧ v16 = .int .i64 ((ones (List.take i xs) : Nat) : Int) ∧ Aside0 (g2 + i = m) ∧ Aside0 (Sta w w' b bt bs m xs xs false false))
                case atStart => exact ⟨0, rfl, Nat.zero_le _, rfl, ⟨by simp⟩, ⟨H5.out.below (by repeat (first | (with_reducible first | exact Below.refl _ _ | apply pw_below_drewN) | exact Below.refl _ _))⟩⟩
                case round =>
                  rename_i w8
                  obtain ⟨i, rfl, hi, rfl, HG2, HS⟩ := hrel
                  have hol := ones_le xs
                  rw [HS.out.len] at hol
                  have hil6 : m ≤ 6 := hm6
                  by_cases hil : i < m
                  · have hx := (HS.out.sn i (by omega)).1
                    have hot := ones_take xs i (by rw [HS.out.len]; exact hil)
                    have hop := ones_le (List.take i xs)
                    rw [List.length_take] at hop
                    by_cases h1 : (xs).getD i 0 = 1
                    · rw [h1, show sg 1 = 1 from rfl] at hx
                      rw [if_pos h1] at hot
                      go_wp2
                      go_roundg (m - (i + 1))
                      case measure => have := HG2.out; omega
                      case rel => exact ⟨i + 1, by go_num, hil, congrArg (Value.int .i64) (by omega), ⟨by omega⟩, HS⟩
                    · have hs : ¬ 0 < sg ((xs).getD i 0) := by rw [sg_pos]; exact h1
                      rw [if_neg h1] at hot
                      generalize sg ((xs).getD i 0) = u at *
                      go_wp2
                      go_roundg (m - (i + 1))
                      case measure => have := HG2.out; omega
                      case rel => exact ⟨i + 1, by go_num, hil, congrArg (Value.int .i64) (by omega), ⟨by omega⟩, HS⟩
                  · have hO : ones (List.take i xs) = ones xs := by rw [List.take_of_length_le (by rw [HS.out.len]; omega)]
                    rw [hO]
                    have ho := HJ.out.o_is
                    rw [HS.out.len] at ho
                    have hoi : ¬ ones xs = m := of_decide_eq_false ho.symm
                    clear ho hO
                    go_wp2
                    go_roundg (cs.length - (n + 1))
                    case measure => have := HG.out; omega
                    case rel => exact ⟨n + 1, _, false, false, false, by go_num, hlt, rfl, rfl, rfl, ⟨by omega⟩, HS, HJ⟩
          · go_wp2_with (fail)
            generalize wrap64 ((IntKind.u64.wrap ci).tmod _) = y at *
            subst ek
            clear hc0 hc1 hc2
            refine (say_over _ bt bs xs o HB1.out.T (k : Int) cy (by omega) (by omega)).mono ?_
            rintro e w4 ⟨rfl, rfl⟩
            cases o
            · go_wp2_with (fail)
              refine (outcome_ _ bt bs xs true false (by exact (HB1.out.below (by repeat (first | (with_reducible first | exact Below.refl _ _ | apply pw_below_drewN) | exact Below.refl _ _))).T)).mono ?_
              rintro e w6 ⟨rfl, ⟨nd1, rfl⟩⟩
              go_wp2
              rw [slice_said _ b m hm1 hm6]
              go_simp
              go_wp2
              go_loopg [16, 89] m (fun g2 v16 v89 w' => ∃ i : Nat, v89 = .int .i64 (i : Int) ∧ i ≤ m ∧ v16 = .int .i64 ((ones (List.take i xs) : Nat) : Int) ∧ Aside0 (g2 + i = m) ∧ Aside0 (Sta w w' b bt bs m xs xs true false))
              case atStart => exact ⟨0, rfl, Nat.zero_le _, rfl, ⟨by simp⟩, ⟨HB1.out.below (by repeat (first | (with_reducible first | exact Below.refl _ _ | apply pw_below_drewN) | exact Below.refl _ _))⟩⟩
              case round =>
                rename_i w8
                obtain ⟨i, rfl, hi, rfl, HG2, HS⟩ := hrel
                have hol := ones_le xs
                rw [HS.out.len] at hol
                have hil6 : m ≤ 6 := hm6
                by_cases hil : i < m
                · have hx := (HS.out.sn i (by omega)).1
                  have hot := ones_take xs i (by rw [HS.out.len]; exact hil)
                  have hop := ones_le (List.take i xs)
                  rw [List.length_take] at hop
                  by_cases h1 : (xs).getD i 0 = 1
                  · rw [h1, show sg 1 = 1 from rfl] at hx
                    rw [if_pos h1] at hot
                    go_wp2
                    go_roundg (m - (i + 1))
                    case measure => have := HG2.out; omega
                    case rel => exact ⟨i + 1, by go_num, hil, congrArg (Value.int .i64) (by omega), ⟨by omega⟩, HS⟩
                  · have hs : ¬ 0 < sg ((xs).getD i 0) := by rw [sg_pos]; exact h1
                    rw [if_neg h1] at hot
                    generalize sg ((xs).getD i 0) = u at *
                    go_wp2
                    go_roundg (m - (i + 1))
                    case measure => have := HG2.out; omega
                    case rel => exact ⟨i + 1, by go_num, hil, congrArg (Value.int .i64) (by omega), ⟨by omega⟩, HS⟩
                · have hO : ones (List.take i xs) = ones xs := by rw [List.take_of_length_le (by rw [HS.out.len]; omega)]
                  rw [hO]
                  have ho := HJ.out.o_is
                  rw [HS.out.len] at ho
                  have hoi : ¬ ones xs = m := of_decide_eq_false ho.symm
                  clear ho hO
                  go_wp2
                  go_roundg (cs.length - (n + 1))
                  case measure => have := HG.out; omega
                  case rel => exact ⟨n + 1, _, true, false, c, by go_num, hlt, rfl, rfl, rfl, ⟨by omega⟩, HS, HJ⟩
            · go_wp2_with (fail)
              refine (outcome_ _ bt bs xs true true (by exact (HB1.out.below (by repeat (first | (with_reducible first | exact Below.refl _ _ | apply pw_below_drewN) | exact Below.refl _ _))).T)).mono ?_
              rintro e w6 ⟨rfl, ⟨nd1, rfl⟩⟩
              go_wp2
              rw [slice_said _ b m hm1 hm6]
              go_simp
              go_wp2
              go_loopg [16, 89] m (fun g2 v16 v89 w' => ∃ i : Nat, v89 = .int .i64 (i : Int) ∧ i ≤ m ∧ v16 = .int .i64 ((ones (List.take i xs) : Nat) : Int) ∧ Aside0 (g2 + i = m) ∧ Aside0 (Sta w w' b bt bs m xs xs true true))
              case atStart => exact ⟨0, rfl, Nat.zero_le _, rfl, ⟨by simp⟩, ⟨HB1.out.below (by repeat (first | (with_reducible first | exact Below.refl _ _ | apply pw_below_drewN) | exact Below.refl _ _))⟩⟩
              case round =>
                rename_i w8
                obtain ⟨i, rfl, hi, rfl, HG2, HS⟩ := hrel
                have hol := ones_le xs
                rw [HS.out.len] at hol
                have hil6 : m ≤ 6 := hm6
                by_cases hil : i < m
                · have hx := (HS.out.sn i (by omega)).1
                  have hot := ones_take xs i (by rw [HS.out.len]; exact hil)
                  have hop := ones_le (List.take i xs)
                  rw [List.length_take] at hop
                  by_cases h1 : (xs).getD i 0 = 1
                  · rw [h1, show sg 1 = 1 from rfl] at hx
                    rw [if_pos h1] at hot
                    go_wp2
                    go_roundg (m - (i + 1))
                    case measure => have := HG2.out; omega
                    case rel => exact ⟨i + 1, by go_num, hil, congrArg (Value.int .i64) (by omega), ⟨by omega⟩, HS⟩
                  · have hs : ¬ 0 < sg ((xs).getD i 0) := by rw [sg_pos]; exact h1
                    rw [if_neg h1] at hot
                    generalize sg ((xs).getD i 0) = u at *
                    go_wp2
                    go_roundg (m - (i + 1))
                    case measure => have := HG2.out; omega
                    case rel => exact ⟨i + 1, by go_num, hil, congrArg (Value.int .i64) (by omega), ⟨by omega⟩, HS⟩
                · have hO : ones (List.take i xs) = ones xs := by rw [List.take_of_length_le (by rw [HS.out.len]; omega)]
                  rw [hO]
                  have ho := HJ.out.o_is
                  rw [HS.out.len] at ho
                  have hoi : ones xs = m := of_decide_eq_true ho.symm
                  clear ho hO
                  go_wp2
                  go_roundg (cs.length - (n + 1))
                  case measure => have := HG.out; omega
                  case rel => exact ⟨n + 1, _, true, true, c, by go_num, hlt, rfl, rfl, rfl, ⟨by omega⟩, HS, HJ⟩
        · have HB1 := Aside0.mk (HB.out.below (below_alloc (Below.refl _ _) (.cells #[.bool true, .int .i64 ci, .bool cy] 38)))
          go_wp2_with (fail)
          clear hc0 hc1 hc2
          refine (close_ _ bt bs xs d o HB1.out.T).mono ?_
          rintro e w4 ⟨rfl, T4, f4⟩
          have H4 := Aside0.mk (HB1.out.say T4 (f4.mono (fun k hk => .inl hk)) HB1.out.len)
          have HJ4 := Aside0.mk HJ.out.close
          clear T4 f4 HB1
          cases d
          · obtain ⟨rfl, rfl⟩ := HJ.out.od rfl
            go_wp2_with (fail)
            refine (outcome_ _ bt bs xs true false (by exact (H4.out.below (by repeat (first | (with_reducible first | exact Below.refl _ _ | apply pw_below_drewN) | exact Below.refl _ _))).T)).mono ?_
            rintro e w6 ⟨rfl, ⟨nd1, rfl⟩⟩
            go_wp2
            rw [slice_said _ b m hm1 hm6]
            go_simp
            go_wp2
            go_loopg [16, 89] m (fun g2 v16 v89 w' => ∃ i : Nat, v89 = .int .i64 (i : Int) ∧ i ≤ m ∧ v16 = .int .i64 ((ones (List.take i xs) : Nat) : Int) ∧ Aside0 (g2 + i = m) ∧ Aside0 (Sta w w' b bt bs m xs xs true false))
            case atStart => exact ⟨0, rfl, Nat.zero_le _, rfl, ⟨by simp⟩, ⟨H4.out.below (by repeat (first | (with_reducible first | exact Below.refl _ _ | apply pw_below_drewN) | exact Below.refl _ _))⟩⟩
            case round =>
              rename_i w8
              obtain ⟨i, rfl, hi, rfl, HG2, HS⟩ := hrel
              have hol := ones_le xs
              rw [HS.out.len] at hol
              have hil6 : m ≤ 6 := hm6
              by_cases hil : i < m
              · have hx := (HS.out.sn i (by omega)).1
                have hot := ones_take xs i (by rw [HS.out.len]; exact hil)
                have hop := ones_le (List.take i xs)
                rw [List.length_take] at hop
                by_cases h1 : (xs).getD i 0 = 1
                · rw [h1, show sg 1 = 1 from rfl] at hx
                  rw [if_pos h1] at hot
                  go_wp2
                  go_roundg (m - (i + 1))
                  case measure => have := HG2.out; omega
                  case rel => exact ⟨i + 1, by go_num, hil, congrArg (Value.int .i64) (by omega), ⟨by omega⟩, HS⟩
                · have hs : ¬ 0 < sg ((xs).getD i 0) := by rw [sg_pos]; exact h1
                  rw [if_neg h1] at hot
                  generalize sg ((xs).getD i 0) = u at *
                  go_wp2
                  go_roundg (m - (i + 1))
                  case measure => have := HG2.out; omega
                  case rel => exact ⟨i + 1, by go_num, hil, congrArg (Value.int .i64) (by omega), ⟨by omega⟩, HS⟩
              · have hO : ones (List.take i xs) = ones xs := by rw [List.take_of_length_le (by rw [HS.out.len]; omega)]
                rw [hO]
                have ho := HJ4.out.o_is
                rw [HS.out.len] at ho
                have hoi : ¬ ones xs = m := of_decide_eq_false ho.symm
                clear ho hO
                go_wp2
                go_roundg (cs.length - (n + 1))
                case measure => have := HG.out; omega
                case rel => exact ⟨n + 1, _, true, false, true, by go_num, hlt, rfl, rfl, rfl, ⟨by omega⟩, HS, HJ4⟩
          · cases o
            · go_wp2_with (fail)
              refine (outcome_ _ bt bs xs true false (by exact (H4.out.below (by repeat (first | (with_reducible first | exact Below.refl _ _ | apply pw_below_drewN) | exact Below.refl _ _))).T)).mono ?_
              rintro e w6 ⟨rfl, ⟨nd1, rfl⟩⟩
              go_wp2
              rw [slice_said _ b m hm1 hm6]
              go_simp
              go_wp2
              go_loopg [16, 89] m (fun g2 v16 v89 w' => ∃ i : Nat, v89 = .int .i64 (i : Int) ∧ i ≤ m ∧ v16 = .int .i64 ((ones (List.take i xs) : Nat) : Int) ∧ Aside0 (g2 + i = m) ∧ Aside0 (Sta w w' b bt bs m xs xs true false))
              case atStart => exact ⟨0, rfl, Nat.zero_le _, rfl, ⟨by simp⟩, ⟨H4.out.below (by repeat (first | (with_reducible first | exact Below.refl _ _ | apply pw_below_drewN) | exact Below.refl _ _))⟩⟩
              case round =>
                rename_i w8
                obtain ⟨i, rfl, hi, rfl, HG2, HS⟩ := hrel
                have hol := ones_le xs
                rw [HS.out.len] at hol
                have hil6 : m ≤ 6 := hm6
                by_cases hil : i < m
                · have hx := (HS.out.sn i (by omega)).1
                  have hot := ones_take xs i (by rw [HS.out.len]; exact hil)
                  have hop := ones_le (List.take i xs)
                  rw [List.length_take] at hop
                  by_cases h1 : (xs).getD i 0 = 1
                  · rw [h1, show sg 1 = 1 from rfl] at hx
                    rw [if_pos h1] at hot
                    go_wp2
                    go_roundg (m - (i + 1))
                    case measure => have := HG2.out; omega
                    case rel => exact ⟨i + 1, by go_num, hil, congrArg (Value.int .i64) (by omega), ⟨by omega⟩, HS⟩
                  · have hs : ¬ 0 < sg ((xs).getD i 0) := by rw [sg_pos]; exact h1
                    rw [if_neg h1] at hot
                    generalize sg ((xs).getD i 0) = u at *
                    go_wp2
                    go_roundg (m - (i + 1))
                    case measure => have := HG2.out; omega
                    case rel => exact ⟨i + 1, by go_num, hil, congrArg (Value.int .i64) (by omega), ⟨by omega⟩, HS⟩
                · have hO : ones (List.take i xs) = ones xs := by rw [List.take_of_length_le (by rw [HS.out.len]; omega)]
                  rw [hO]
                  have ho := HJ4.out.o_is
                  rw [HS.out.len] at ho
                  have hoi : ¬ ones xs = m := of_decide_eq_false ho.symm
                  clear ho hO
                  go_wp2
                  go_roundg (cs.length - (n + 1))
                  case measure => have := HG.out; omega
                  case rel => exact ⟨n + 1, _, true, false, true, by go_num, hlt, rfl, rfl, rfl, ⟨by omega⟩, HS, HJ4⟩
            · go_wp2_with (fail)
              refine (outcome_ _ bt bs xs true true (by exact (H4.out.below (by repeat (first | (with_reducible first | exact Below.refl _ _ | apply pw_below_drewN) | exact Below.refl _ _))).T)).mono ?_
              rintro e w6 ⟨rfl, ⟨nd1, rfl⟩⟩
              go_wp2
              rw [slice_said _ b m hm1 hm6]
              go_simp
              go_wp2
              go_loopg [16, 89] m (fun g2 v16 v89 w' => ∃ i : Nat, v89 = .int .i64 (i : Int) ∧ i ≤ m ∧ v16 = .int .i64 ((ones (List.take i xs) : Nat) : Int) ∧ Aside0 (g2 + i = m) ∧ Aside0 (Sta w w' b bt bs m xs xs true true))
              case atStart => exact ⟨0, rfl, Nat.zero_le _, rfl, ⟨by simp⟩, ⟨H4.out.below (by repeat (first | (with_reducible first | exact Below.refl _ _ | apply pw_below_drewN) | exact Below.refl _ _))⟩⟩
              case round =>
                rename_i w8
                obtain ⟨i, rfl, hi, rfl, HG2, HS⟩ := hrel
                have hol := ones_le xs
                rw [HS.out.len] at hol
                have hil6 : m ≤ 6 := hm6
                by_cases hil : i < m
                · have hx := (HS.out.sn i (by omega)).1
                  have hot := ones_take xs i (by rw [HS.out.len]; exact hil)
                  have hop := ones_le (List.take i xs)
                  rw [List.length_take] at hop
                  by_cases h1 : (xs).getD i 0 = 1
                  · rw [h1, show sg 1 = 1 from rfl] at hx
                    rw [if_pos h1] at hot
                    go_wp2
                    go_roundg (m - (i + 1))
                    case measure => have := HG2.out; omega
                    case rel => exact ⟨i + 1, by go_num, hil, congrArg (Value.int .i64) (by omega), ⟨by omega⟩, HS⟩
                  · have hs : ¬ 0 < sg ((xs).getD i 0) := by rw [sg_pos]; exact h1
                    rw [if_neg h1] at hot
                    generalize sg ((xs).getD i 0) = u at *
                    go_wp2
                    go_roundg (m - (i + 1))
                    case measure => have := HG2.out; omega
                    case rel => exact ⟨i + 1, by go_num, hil, congrArg (Value.int .i64) (by omega), ⟨by omega⟩, HS⟩
                · have hO : ones (List.take i xs) = ones xs := by rw [List.take_of_length_le (by rw [HS.out.len]; omega)]
                  rw [hO]
                  have ho := HJ4.out.o_is
                  rw [HS.out.len] at ho
                  have hoi : ones xs = m := of_decide_eq_true ho.symm
                  clear ho hO
                  go_wp2
                  go_roundg (cs.length - (n + 1))
                  case measure => have := HG.out; omega
                  case rel => exact ⟨n + 1, _, true, true, true, by go_num, hlt, rfl, rfl, rfl, ⟨by omega⟩, HS, HJ4⟩
    · have HX := HB
      go_wp2_with (fail)
      refine (awake_ _).mono ?_
      rintro e w5 ⟨rfl, hb5⟩
      have HB5 := Aside0.mk hb5
      clear hb5
      go_wp2
      go_ret
      exact ⟨rfl, HX.out.hb.trans (HB5.out.mono HX.out.hb.size)⟩
end Go.Proofs.Ytnchlddbcomokaa.Ty

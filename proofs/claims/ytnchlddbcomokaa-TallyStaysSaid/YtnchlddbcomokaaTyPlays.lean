/- TallyPlays: whatever calls come, the program's tally and the document's answer alike. -/
import Derived.Test.YtnchlddbcomokaaTyS
import Derived.Test.YtnchlddbcomokaaTyNil
import Derived.Test.YtnchlddbcomokaaFc
namespace Go.Proofs.Ytnchlddbcomokaa.Ty
open Go.RowKit Go.Proofs.YtnchlddbcomokaaW.PrintWords Go.Proofs.YtnchlddbcomokaaW.PrintLast Go.Proofs.YtnchlddbcomokaaW.PrintMore
set_option linter.unusedVariables false
set_option linter.unusedSimpArgs false
/-- What holds ahead of each call of the loop. -/
structure Both (w w' : World) (bt bs rt rs : Nat) (xs : List Int) (d o c : Bool) : Prop where
  T : Tal w' bt bs xs d o
  R : Ral w' rt rs xs c
  j : J xs d o c
  hb : Below w.heap.size w w'
  b1 : w.heap.size ≤ bt
  b2 : w.heap.size ≤ bs
  b3 : w.heap.size ≤ rt
  b4 : w.heap.size ≤ rs
  n1 : bt ≠ rt
  n2 : bt ≠ rs
  n3 : bs ≠ rt
  n4 : bs ≠ rs
theorem Both.below {w w1 w2 : World} {bt bs rt rs : Nat} {xs : List Int} {d o c : Bool} (h : Both w w1 bt bs rt rs xs d o c) (k : Below w1.heap.size w1 w2) : Both w w2 bt bs rt rs xs d o c :=
  ⟨h.T.below k, h.R.below k, h.j, h.hb.trans (k.mono h.hb.size), h.b1, h.b2, h.b3, h.b4, h.n1, h.n2, h.n3, h.n4⟩
theorem Both.closed {w w1 w2 w3 : World} {bt bs rt rs : Nat} {xs : List Int} {d o c : Bool} (h : Both w w1 bt bs rt rs xs d o c) (T : Tal w2 bt bs xs true o) (f : Fr (fun k => k = bt) w1 w2) (R : Ral w3 rt rs xs true) (g : Fr (fun k => k = rt) w2 w3) : Both w w3 bt bs rt rs xs true o true :=
  ⟨T.keep g h.n1 h.n3, R, h.j.close, g.below (f.below h.hb (fun k hk => by subst hk; exact h.b1) h.hb.size) (fun k hk => by subst hk; exact h.b3) (Nat.le_trans h.hb.size f.size), h.b1, h.b2, h.b3, h.b4, h.n1, h.n2, h.n3, h.n4⟩
theorem Both.said {w w1 w2 w3 : World} {bt bs rt rs : Nat} {xs ys : List Int} {d o c d' o' : Bool} (h : Both w w1 bt bs rt rs xs d o c) (T : Tal w2 bt bs ys d' o') (f : Fr (fun k => k = bt ∨ k = bs) w1 w2) (R : Ral w3 rt rs ys c) (g : Fr (fun k => k = rs) w2 w3) (j : J ys d' o' c) : Both w w3 bt bs rt rs ys d' o' c :=
  ⟨T.keep g h.n2 h.n4, R, j, g.below (f.below h.hb (fun k hk => by rcases hk with rfl | rfl; exact h.b1; exact h.b2) h.hb.size) (fun k hk => by subst hk; exact h.b4) (Nat.le_trans h.hb.size f.size), h.b1, h.b2, h.b3, h.b4, h.n1, h.n2, h.n3, h.n4⟩
theorem add_field (ad : Addr) (m j : Nat) (hj : j ≠ 0) : ad.add (m + j) = ⟨(ad.add m).block, (ad.add m).off + j, none⟩ := by
  unfold Addr.add
  by_cases hm : m = 0
  · simp [hm, hj]
  · simp [hm, hj, Nat.add_assoc]
set_option maxHeartbeats 4000000 in
set_option maxRecDepth 100000 in
theorem plays_law (n : Int) (hn : -9223372036854775808 ≤ n ∧ n ≤ 9223372036854775807) (a : Option Addr) (len cap : Nat) (cs : List (Bool × Int × Bool)) (w : World) (hcs : CallsAt w a len cap cs) :
    Calls Try.prog 9 #[.int .i64 n, .slice a len cap] w fun e w' => e = .returned (.bool true) ∧ Below w.heap.size w w' := by
  obtain ⟨hl, hlc, hcm, hr, hat⟩ := hcs
  subst hl
  unfold maxLen at hcm
  have hm := most_le_ n
  have HR := Aside0.mk hr
  have HAT := Aside0.mk hat
  clear hr hat
  go_enter Try.func9, Try.ntmps9
  go_wp2_with (fail)
  refine (new_ n _ hn.1 hn.2).mono ?_
  rintro e w1 ⟨bt, bs, rfl, h1, h2, T0, hb1⟩
  have H0 := Aside0.mk (And.intro h1 (And.intro h2 (And.intro T0 hb1)))
  clear h1 h2 T0 hb1
  go_wp2_with (fail)
  refine (rnew_ n _ hn.1 hn.2).mono ?_
  rintro e w2 ⟨rt, rs, rfl, h3, h4, R0, hb2⟩
  have HB0 : Aside0 (Both w w2 bt bs rt rs (List.replicate (most n) 0) false false false) := by
    obtain ⟨h1, h2, T0, hb1⟩ := H0.out
    have := T0.it
    have := T0.is_
    exact ⟨⟨T0.below hb2, R0, J.new _ hm.1, hb1.trans (hb2.mono hb1.size), h1, h2, by have := hb1.size; omega, by have := hb1.size; omega, by omega, by omega, by omega, by omega⟩⟩
  clear h3 h4 R0 hb2 H0
  go_wp2
  go_loopg [21] cs.length (fun gq v21 w' => ∃ (n : Nat) (xs : List Int) (d o c : Bool), v21 = .int .i64 (n : Int) ∧ n ≤ cs.length ∧ Aside0 (gq + n = cs.length) ∧ Aside0 (Both w w' bt bs rt rs xs d o c))
  case atStart => exact ⟨0, _, false, false, false, rfl, Nat.zero_le _, ⟨rfl⟩, HB0⟩
  case round =>
    clear HB0
    rename_i w3
    obtain ⟨n, xs, d, o, c, rfl, hn, HG, HB⟩ := hrel
    by_cases hlt : n < cs.length
    · by_cases h200 : 200 ≤ n
      · obtain ⟨ad, rfl, hat⟩ := HAT.out (by omega)
        have hc0 := (hat n hlt).1
        have hc1 := (hat n hlt).2.1
        have hc2 := (hat n hlt).2.2
        replace hc0 := (HB.out.hb.cell (World.block_lt_of_cell? w _ hc0)).trans hc0
        replace hc1 := (HB.out.hb.cell (World.block_lt_of_cell? w _ hc1)).trans hc1
        replace hc2 := (HB.out.hb.cell (World.block_lt_of_cell? w _ hc2)).trans hc2
        rw [add_field ad (n * 3) 1 (by omega)] at hc1
        rw [add_field ad (n * 3) 2 (by omega)] at hc2
        clear hat
        generalize cs[n] = cc at *
        obtain ⟨cl, ci, cy⟩ := cc
        simp only at hc0 hc1 hc2
        have HX := Aside0.mk (HB.out.below (below_alloc (Below.refl _ _) (.cells #[.bool cl, .int .i64 ci, .bool cy] 38)))
        go_wp2_with (fail)
        refine (awake_ _).mono ?_
        rintro e w5 ⟨rfl, hb5⟩
        have HB5 := Aside0.mk hb5
        clear hb5
        go_wp2
        go_ret
        exact ⟨rfl, HX.out.hb.trans (HB5.out.mono HX.out.hb.size)⟩
      · obtain ⟨ad, rfl, hat⟩ := HAT.out (by omega)
        have hc0 := (hat n hlt).1
        have hc1 := (hat n hlt).2.1
        have hc2 := (hat n hlt).2.2
        have hr1 := HR.out cs[n] (List.getElem_mem hlt)
        replace hc0 := (HB.out.hb.cell (World.block_lt_of_cell? w _ hc0)).trans hc0
        replace hc1 := (HB.out.hb.cell (World.block_lt_of_cell? w _ hc1)).trans hc1
        replace hc2 := (HB.out.hb.cell (World.block_lt_of_cell? w _ hc2)).trans hc2
        rw [add_field ad (n * 3) 1 (by omega)] at hc1
        rw [add_field ad (n * 3) 2 (by omega)] at hc2
        clear hat
        generalize cs[n] = cc at *
        obtain ⟨cl, ci, cy⟩ := cc
        simp only at hc0 hc1 hc2 hr1
        cases cl
        · have HB1 := Aside0.mk (HB.out.below (below_drew1 (below_alloc (Below.refl _ _) (.cells #[.bool false, .int .i64 ci, .bool cy] 38))))
          have e1 : (wr.alloc (.cells #[.bool false, .int .i64 ci, .bool cy] 38)).drew.cell? ⟨wr.heap.size, 1, none⟩ = some (.int .i64 ci) := by go_simp
          have e2 : (wr.alloc (.cells #[.bool false, .int .i64 ci, .bool cy] 38)).drew.cell? ⟨wr.heap.size, 2, none⟩ = some (.bool cy) := by go_simp
          have hj := HB.out.j.say ci cy
          have hsay := say_any _ bt bs xs d o HB1.out.T ci cy
          have hrsay := fun (W : World) (hR : Ral W rt rs xs c) => rsay_any W rt rs xs c hR (in3_of HB.out.j.in3) ci cy
          generalize sayF xs d o ci cy = r at hj hsay
          generalize rsayF xs c ci cy = q at hj hrsay
          obtain ⟨r1, r2, r3, r4⟩ := r
          obtain ⟨q1, q2⟩ := q
          simp only at hj
          obtain ⟨rfl, rfl, hJ⟩ := hj
          have HS := Aside0.mk hsay
          have HRS := Aside0.mk hrsay
          have HJ := Aside0.mk hJ
          have hsz : wr.heap.size ≠ bt := by have := HB.out.T.it; omega
          have hsz2 : wr.heap.size ≠ bs := by have := HB.out.T.is_; omega
          have hsz3 : wr.heap.size ≠ rt := by have := HB.out.R.it; omega
          have hsz4 : wr.heap.size ≠ rs := by have := HB.out.R.is_; omega
          have HZ := Aside0.mk (And.intro hsz (And.intro hsz2 (And.intro hsz3 hsz4)))
          clear hsay hrsay hJ hsz hsz2 hsz3 hsz4
          go_wp2_with (fail)
          clear hc0 hc1 hc2
          go_region_held3 (fun w' => w'.cell? ⟨wr.heap.size, 1, none⟩ = some (.int .i64 ci) ∧ w'.cell? ⟨wr.heap.size, 2, none⟩ = some (.bool cy)) (first | go_keep | exact hkeep.out) (first | (go_at_call 26; (with_reducible refine HS.out.mono ?_); rintro e w4 ⟨rfl, T4, f4⟩; have H4 := Aside0.mk (And.intro T4 f4); have hkeep : Aside0 (w4.cell? ⟨wr.heap.size, 1, none⟩ = some (.int .i64 ci) ∧ w4.cell? ⟨wr.heap.size, 2, none⟩ = some (.bool cy)) := ⟨(cell_of (f4.block wr.heap.size (by simp) (fun h => (show wr.heap.size = bt ∨ wr.heap.size = bs from h).elim HZ.out.1 HZ.out.2.1)) 1).trans e1, (cell_of (f4.block wr.heap.size (by simp) (fun h => (show wr.heap.size = bt ∨ wr.heap.size = bs from h).elim HZ.out.1 HZ.out.2.1)) 2).trans e2⟩; clear T4 f4) | (go_at_call 27; (with_reducible refine (HRS.out _ (by exact HB1.out.R.keep H4.out.2 (fun h => (show rt = bt ∨ rt = bs from h).elim (fun e => absurd e.symm HB1.out.n1) (fun e => absurd e.symm HB1.out.n3)) (fun h => (show rs = bt ∨ rs = bs from h).elim (fun e => absurd e.symm HB1.out.n2) (fun e => absurd e.symm HB1.out.n4)))).mono ?_); rintro e w5 ⟨rfl, R5, f5⟩; have HB5 := Aside0.mk (HB1.out.said H4.out.1 H4.out.2 R5 f5 HJ.out); have hkeep2 : Aside0 (w5.cell? ⟨wr.heap.size, 1, none⟩ = some (.int .i64 ci) ∧ w5.cell? ⟨wr.heap.size, 2, none⟩ = some (.bool cy)) := ⟨(cell_of (f5.block wr.heap.size (by have := H4.out.2.size; simp at this; omega) HZ.out.2.2.2) 1).trans hkeep.out.1, (cell_of (f5.block wr.heap.size (by have := H4.out.2.size; simp at this; omega) HZ.out.2.2.2) 2).trans hkeep.out.2⟩; clear hkeep; have hkeep := hkeep2; clear R5 f5))
          clear hkeep e1 e2
          cases r3
          · have HRO := Aside0.mk (fun (W : World) (hR : Ral W rt rs r2 c) => by have h := routcome_ W rt rs r2 c hR (in3_of HB5.out.j.in3); rw [HB5.out.j.out] at h; exact h)
            have hov := congrArg Prod.snd HB5.out.j.out
            have hlen := HB5.out.T.len
            simp only at hov
            go_wp2_with (fail)
            refine (outcome_ _ bt bs r2 _ r4 (by exact (HB5.out.below (by repeat (first | (with_reducible first | exact Below.refl _ _ | apply pw_below_drewN) | exact Below.refl _ _))).T)).mono ?_
            rintro e w6 ⟨rfl, ⟨nd1, rfl⟩⟩
            go_wp2_with (fail)
            refine (HRO.out _ (by exact (HB5.out.below (by repeat (first | (with_reducible first | exact Below.refl _ _ | apply pw_below_drewN) | exact Below.refl _ _))).R)).mono ?_
            rintro e w7 ⟨rfl, ⟨nd2, rfl⟩⟩
            go_wp2_with (fail)
            refine (waits_open _ bt bs r2 r4 (by exact (HB5.out.below (by repeat (first | (with_reducible first | exact Below.refl _ _ | apply pw_below_drewN) | exact Below.refl _ _))).T)).mono ?_
            rintro e w8 ⟨v1, rfl, hR1, hb1⟩
            obtain ⟨Ao1, co1, eo1⟩ := Kd.R_slice hR1
            subst eo1
            have HB8 := Aside0.mk ((HB5.out.below (by repeat (first | (with_reducible first | exact Below.refl _ _ | apply pw_below_drewN) | exact Below.refl _ _))).below hb1)
            have HR1 := Aside0.mk hR1
            clear hR1 hb1
            go_wp2_with (fail)
            refine (rwaits_open _ rt rs r2 c (by exact HB8.out.R) (in3_of HB5.out.j.in3) hov).mono ?_
            rintro e w9 ⟨v2, rfl, hR2, hb2⟩
            obtain ⟨Ao2, co2, eo2⟩ := Kd.R_slice hR2
            subst eo2
            have HB9 := Aside0.mk (HB8.out.below hb2)
            have HR1b := Aside0.mk (Kd.R_below HR1.out hb2)
            have HR2 := Aside0.mk hR2
            have hwl := wt_length r2 0
            clear hR2 hb2 HB8 HR1
            go_wp2_with (fail)
            refine (Hh.wharfingerref1_SameInts.calls 100 Ao1 co1 (wt r2 0) Ao2 co2 (wt r2 0) true _ (Kd.R_reads' HR1b.out).2.2 (Kd.R_reads' HR1b.out).2.1 (Kd.R_reads' HR2.out).2.2 (Kd.R_reads' HR2.out).2.1 (Hh.same_is (wt r2 0) (by omega) 100 (by omega))).mono ?_
            rintro e w10 ⟨rfl, ⟨nd4, rfl⟩⟩
            go_wp2
            go_roundg (cs.length - (n + 1))
            case measure => have := HG.out; omega
            case rel => exact ⟨n + 1, r2, false, r4, c, by go_num, hlt, ⟨by omega⟩, ⟨HB9.out.below (by repeat (first | (with_reducible first | exact Below.refl _ _ | apply pw_below_drewN) | exact Below.refl _ _))⟩⟩
          · have HRO := Aside0.mk (fun (W : World) (hR : Ral W rt rs r2 c) => by have h := routcome_ W rt rs r2 c hR (in3_of HB5.out.j.in3); rw [HB5.out.j.out] at h; exact h)
            have hov := congrArg Prod.snd HB5.out.j.out
            have hlen := HB5.out.T.len
            simp only at hov
            go_wp2_with (fail)
            refine (outcome_ _ bt bs r2 _ r4 (by exact (HB5.out.below (by repeat (first | (with_reducible first | exact Below.refl _ _ | apply pw_below_drewN) | exact Below.refl _ _))).T)).mono ?_
            rintro e w6 ⟨rfl, ⟨nd1, rfl⟩⟩
            go_wp2_with (fail)
            refine (HRO.out _ (by exact (HB5.out.below (by repeat (first | (with_reducible first | exact Below.refl _ _ | apply pw_below_drewN) | exact Below.refl _ _))).R)).mono ?_
            rintro e w7 ⟨rfl, ⟨nd2, rfl⟩⟩
            go_wp2_with (fail)
            refine (waits_over _ bt bs r2 r4 (by exact (HB5.out.below (by repeat (first | (with_reducible first | exact Below.refl _ _ | apply pw_below_drewN) | exact Below.refl _ _))).T)).mono ?_
            rintro e w8 ⟨rfl, rfl⟩
            go_wp2_with (fail)
            refine (rwaits_over _ rt rs r2 c (by exact (HB5.out.below (by repeat (first | (with_reducible first | exact Below.refl _ _ | apply pw_below_drewN) | exact Below.refl _ _))).R) (in3_of HB5.out.j.in3) hov).mono ?_
            rintro e w9 ⟨rfl, ⟨nd3, rfl⟩⟩
            go_wp2_with (fail)
            refine (Hh.wharfingerref1_SameInts.calls 5 none 0 [] none 0 [] true _ (Kd.C_of_reads (d := (0 : Int)) (h1 := fun _ => rfl) ⟨rfl, Nat.zero_le _, fun h => absurd h (by decide)⟩) (Nat.le_refl _) (Kd.C_of_reads (d := (0 : Int)) (h1 := fun _ => rfl) ⟨rfl, Nat.zero_le _, fun h => absurd h (by decide)⟩) (Nat.le_refl _) (Hh.same_is [] (by decide) 5 (by decide))).mono ?_
            rintro e w10 ⟨rfl, ⟨nd4, rfl⟩⟩
            go_wp2
            go_roundg (cs.length - (n + 1))
            case measure => have := HG.out; omega
            case rel => exact ⟨n + 1, r2, true, r4, c, by go_num, hlt, ⟨by omega⟩, ⟨(HB5.out.below (by repeat (first | (with_reducible first | exact Below.refl _ _ | apply pw_below_drewN) | exact Below.refl _ _)))⟩⟩
        · have HB1 := Aside0.mk (HB.out.below (below_alloc (Below.refl _ _) (.cells #[.bool true, .int .i64 ci, .bool cy] 38)))
          go_wp2_with (fail)
          clear hc0 hc1 hc2
          refine (close_ _ bt bs xs d o HB1.out.T).mono ?_
          rintro e w4 ⟨rfl, T4, f4⟩
          have H4 := Aside0.mk (And.intro T4 f4)
          clear T4 f4
          go_wp2_with (fail)
          refine (rclose_ _ rt rs xs c (by exact HB1.out.R.keep H4.out.2 (Ne.symm HB1.out.n1) (fun h => HB1.out.n2 h.symm))).mono ?_
          rintro e w5 ⟨rfl, R5, f5⟩
          have HB5 := Aside0.mk (HB1.out.closed H4.out.1 H4.out.2 R5 f5)
          clear R5 f5 H4 HB1
          have HRO := Aside0.mk (fun (W : World) (hR : Ral W rt rs xs true) => by have h := routcome_ W rt rs xs true hR (in3_of HB5.out.j.in3); rw [HB5.out.j.out] at h; exact h)
          have hov := congrArg Prod.snd HB5.out.j.out
          have hlen := HB5.out.T.len
          simp only at hov
          go_wp2_with (fail)
          refine (outcome_ _ bt bs xs _ o (by exact (HB5.out.below (by repeat (first | (with_reducible first | exact Below.refl _ _ | apply pw_below_drewN) | exact Below.refl _ _))).T)).mono ?_
          rintro e w6 ⟨rfl, ⟨nd1, rfl⟩⟩
          go_wp2_with (fail)
          refine (HRO.out _ (by exact (HB5.out.below (by repeat (first | (with_reducible first | exact Below.refl _ _ | apply pw_below_drewN) | exact Below.refl _ _))).R)).mono ?_
          rintro e w7 ⟨rfl, ⟨nd2, rfl⟩⟩
          go_wp2_with (fail)
          refine (waits_over _ bt bs xs o (by exact (HB5.out.below (by repeat (first | (with_reducible first | exact Below.refl _ _ | apply pw_below_drewN) | exact Below.refl _ _))).T)).mono ?_
          rintro e w8 ⟨rfl, rfl⟩
          go_wp2_with (fail)
          refine (rwaits_over _ rt rs xs true (by exact (HB5.out.below (by repeat (first | (with_reducible first | exact Below.refl _ _ | apply pw_below_drewN) | exact Below.refl _ _))).R) (in3_of HB5.out.j.in3) hov).mono ?_
          rintro e w9 ⟨rfl, ⟨nd3, rfl⟩⟩
          go_wp2_with (fail)
          refine (Hh.wharfingerref1_SameInts.calls 5 none 0 [] none 0 [] true _ (Kd.C_of_reads (d := (0 : Int)) (h1 := fun _ => rfl) ⟨rfl, Nat.zero_le _, fun h => absurd h (by decide)⟩) (Nat.le_refl _) (Kd.C_of_reads (d := (0 : Int)) (h1 := fun _ => rfl) ⟨rfl, Nat.zero_le _, fun h => absurd h (by decide)⟩) (Nat.le_refl _) (Hh.same_is [] (by decide) 5 (by decide))).mono ?_
          rintro e w10 ⟨rfl, ⟨nd4, rfl⟩⟩
          go_wp2
          go_roundg (cs.length - (n + 1))
          case measure => have := HG.out; omega
          case rel => exact ⟨n + 1, xs, true, o, true, by go_num, hlt, ⟨by omega⟩, ⟨(HB5.out.below (by repeat (first | (with_reducible first | exact Below.refl _ _ | apply pw_below_drewN) | exact Below.refl _ _)))⟩⟩
    · have HX := HB
      go_wp2_with (fail)
      refine (awake_ _).mono ?_
      rintro e w5 ⟨rfl, hb5⟩
      have HB5 := Aside0.mk hb5
      clear hb5
      go_wp2
      go_ret
      exact ⟨rfl, HX.out.hb.trans (HB5.out.mono HX.out.hb.size)⟩
end Go.Proofs.Ytnchlddbcomokaa.Ty

/- The contracts of the document's tally (wharfingerref12): NewTally, Close, Outcome, Waits, Say. -/
import Derived.Test.YtnchlddbcomokaaTy
namespace Go.Proofs.Ytnchlddbcomokaa.Ty
open Go.RowKit Go.Proofs.YtnchlddbcomokaaW.PrintWords Go.Proofs.YtnchlddbcomokaaW.PrintLast Go.Proofs.YtnchlddbcomokaaW.PrintMore
attribute [local go_sem] max2_int min2_int max_two min_two max_three min_three max_four min_four
set_option linter.unusedVariables false
set_option linter.unusedSimpArgs false

/-- The document's tally in memory: what each said, whether it was closed. -/
structure Ral (w : World) (bt bs : Nat) (xs : List Int) (c : Bool) : Prop where
  p0 : w.cell? ⟨bt, 0, none⟩ = some (.slice (some ⟨bs, 0, none⟩) xs.length xs.length)
  p1 : w.cell? ⟨bt, 1, none⟩ = some (.bool c)
  f1 : w.frozen? ⟨bt, 1, none⟩ = false
  said : ∀ j, j < xs.length → w.cell? ⟨bs, j, none⟩ = some (.int .i64 (xs.getD j 0)) ∧ w.frozen? ⟨bs, j, none⟩ = false
  ne : bt ≠ bs
  len : xs.length ≤ 64
  it : bt < w.heap.size
  is_ : bs < w.heap.size
theorem Ral.keep {S : Nat → Prop} {w w' : World} {bt bs : Nat} {xs : List Int} {c : Bool} (h : Ral w bt bs xs c) (k : Fr S w w') (ht : ¬ S bt) (hs : ¬ S bs) : Ral w' bt bs xs c := by
  have et := k.block bt h.it ht
  have es := k.block bs h.is_ hs
  exact ⟨(cell_of et 0).trans h.p0, (cell_of et 1).trans h.p1, (frozen_of et 1).trans h.f1,
    fun j hj => ⟨(cell_of es j).trans (h.said j hj).1, (frozen_of es j).trans (h.said j hj).2⟩, h.ne, h.len, Nat.lt_of_lt_of_le h.it k.size, Nat.lt_of_lt_of_le h.is_ k.size⟩
theorem Ral.below {w w' : World} {bt bs : Nat} {xs : List Int} {c : Bool} (h : Ral w bt bs xs c) (k : Below w.heap.size w w') : Ral w' bt bs xs c :=
  h.keep (Fr.of_below (S := fun _ => False) k) (fun x => x) (fun x => x)
theorem Ral.set {w : World} {bt bs : Nat} {xs : List Int} {c : Bool} (h : Ral w bt bs xs c) (j : Nat) (hj : j < xs.length) (v : Int) : Ral (w.setCell ⟨bs, j, none⟩ (.int .i64 v)) bt bs (xs.set j v) c := by
  have ht := Below.heap_setCell w ⟨bs, j, none⟩ (.int .i64 v) bt h.ne
  refine ⟨by rw [List.length_set]; exact (cell_of ht 0).trans h.p0, (cell_of ht 1).trans h.p1, (frozen_of ht 1).trans h.f1, fun i hi => ?_, h.ne, by rw [List.length_set]; exact h.len, by rw [size_set]; exact h.it, by rw [size_set]; exact h.is_⟩
  rw [List.length_set] at hi
  refine ⟨?_, by rw [World.frozen?_setCell]; exact (h.said i hi).2⟩
  by_cases e : j = i
  · subst e
    rw [World.cell?_setCell_same _ _ _ (h.said j hi).1]
    simp [List.getD_eq_getElem?_getD, hj]
  · rw [World.cell?_setCell_other _ _ _ _ (by simp [e]), (h.said i hi).1]
    simp [List.getD_eq_getElem?_getD, List.getElem?_set, e]
theorem Ral.close {w : World} {bt bs : Nat} {xs : List Int} {c : Bool} (h : Ral w bt bs xs c) (v : Bool) : Ral (w.setCell ⟨bt, 1, none⟩ (.bool v)) bt bs xs v := by
  have hs := Below.heap_setCell w ⟨bt, 1, none⟩ (.bool v) bs (Ne.symm h.ne)
  exact ⟨(World.cell?_setCell_other _ _ _ _ (by simp)).trans h.p0, World.cell?_setCell_same _ _ _ h.p1, by rw [World.frozen?_setCell]; exact h.f1,
    fun i hi => ⟨(cell_of hs i).trans (h.said i hi).1, (frozen_of hs i).trans (h.said i hi).2⟩, h.ne, h.len, by rw [size_set]; exact h.it, by rw [size_set]; exact h.is_⟩

theorem rclose_ (w : World) (bt bs : Nat) (xs : List Int) (c : Bool) (h : Ral w bt bs xs c) :
    Calls Try.prog 25 #[.pointer (some ⟨bt, 0, none⟩)] w fun e w' => e = .returned (.tuple #[]) ∧ Ral w' bt bs xs true ∧ Fr (· = bt) w w' := by
  have c1 := h.p1
  have z1 := h.f1
  have H := Aside0.mk h
  clear h
  go_enter Try.func25, Try.ntmps25
  go_wp2
  first | go_end0 | ((try simp only [Exit.inBlock, Exit.then]); refine bodyPost_ret (results_none rfl _ _ _) rfl ?_)
  exact ⟨rfl, H.out.close true, (Fr.refl (fun k => k = bt) _).set rfl _⟩

/-- What the document's tally is decided as: one no is against it, all yes for it; else it is over where it was closed. -/
def ro : List Int → Int → Nat → Bool → Bool × Bool
  | [], n, len, c => if n = (len : Int) then (true, true) else (false, c)
  | s :: l, n, len, c => if s = 2 then (false, true) else ro l (n + s) len c
def In3 (xs : List Int) : Prop := ∀ j, j < xs.length → 0 ≤ xs.getD j 0 ∧ xs.getD j 0 ≤ 2
set_option maxHeartbeats 4000000 in
set_option maxRecDepth 100000 in
theorem routcome_ (w : World) (bt bs : Nat) (xs : List Int) (c : Bool) (h : Ral w bt bs xs c) (h3 : In3 xs) :
    Calls Try.prog 29 #[.pointer (some ⟨bt, 0, none⟩)] w fun e w' => e = .returned (.tuple #[.bool (ro xs 0 xs.length c).1, .bool (ro xs 0 xs.length c).2]) ∧ Drawn0 w w' := by
  have c0 := h.p0
  have c1 := h.p1
  have hlen := h.len
  have HS := Aside0.mk h.said
  have H3 := Aside0.mk h3
  clear h h3
  generalize hr : ro xs 0 xs.length c = r
  have Hr := Aside0.mk hr
  clear hr
  go_enter Try.func29, Try.ntmps29
  go_wp2
  go_loopg [4, 12] xs.length (fun gq v4 v12 w' => ∃ (m : Int) (n : Nat), v4 = .int .i64 m ∧ v12 = .int .i64 (n : Int) ∧ n ≤ xs.length ∧ 0 ≤ m ∧ m ≤ 2 * n ∧ Aside0 (ro (xs.drop n) m xs.length c = r) ∧ Aside0 (gq + n = xs.length) ∧ Drawn0 w w')
  case atStart => exact ⟨0, 0, rfl, rfl, Nat.zero_le _, by omega, by omega, Hr, ⟨rfl⟩, by repeat (first | exact Drawn0.refl _ | apply Drawn0.step)⟩
  case round =>
    clear Hr
    obtain ⟨m, n, rfl, rfl, hn, hm0, hm1, HE, HG, ⟨m1, rfl⟩⟩ := hrel
    by_cases hlt : n < xs.length
    · have hx1 := (HS.out n hlt).1
      have h30 := (H3.out n hlt).1
      have h31 := (H3.out n hlt).2
      have HE2 : Aside0 (ro (xs.getD n 0 :: xs.drop (n + 1)) m xs.length c = r) := ⟨by rw [← drop_at xs n hlt]; exact HE.out⟩
      clear HE
      generalize xs.getD n 0 = s at *
      by_cases hs : s = 2
      · subst hs
        have HE : Aside0 ((false, true) = r) := ⟨by have h := HE2.out; rw [ro, if_pos rfl] at h; exact h⟩
        clear HE2
        go_wp2
        go_ret2
        exact ⟨by have h := HE.out; subst h; rfl, by repeat (first | exact Drawn0.refl _ | apply Drawn0.step)⟩
      · have HE : Aside0 (ro (xs.drop (n + 1)) (m + s) xs.length c = r) := ⟨by have h := HE2.out; rw [ro, if_neg hs] at h; exact h⟩
        clear HE2
        have hs1 : (s == 2) = false := beq_eq_false_iff_ne.mpr hs
        clear hs
        go_wp2
        go_roundg (xs.length - (n + 1))
        case measure => have := HG.out; omega
        case rel => exact ⟨m + s, n + 1, rfl, by go_num, hlt, by omega, by omega, HE, ⟨by omega⟩, by repeat (first | exact Drawn0.refl _ | apply Drawn0.step)⟩
    · have HE2 : Aside0 ((if m = (xs.length : Int) then (true, true) else (false, c)) = r) := ⟨by have h := HE.out; rw [List.drop_eq_nil_of_le (by omega), ro] at h; exact h⟩
      clear HE
      by_cases he : m = (xs.length : Int)
      · have HE : Aside0 ((true, true) = r) := ⟨by have h := HE2.out; rw [if_pos he] at h; exact h⟩
        have he1 : (m == (xs.length : Int)) = true := beq_iff_eq.mpr he
        clear he HE2
        go_wp2
        go_ret2
        exact ⟨by have h := HE.out; subst h; rfl, by repeat (first | exact Drawn0.refl _ | apply Drawn0.step)⟩
      · have HE : Aside0 ((false, c) = r) := ⟨by have h := HE2.out; rw [if_neg he] at h; exact h⟩
        have he1 : (m == (xs.length : Int)) = false := beq_eq_false_iff_ne.mpr he
        clear he HE2
        go_wp2
        go_quiet (fail)
        go_wp2
        go_ret2
        exact ⟨by have h := HE.out; subst h; rfl, by repeat (first | exact Drawn0.refl _ | apply Drawn0.step)⟩
set_option maxHeartbeats 4000000 in
set_option maxRecDepth 100000 in
theorem rwaits_over (w : World) (bt bs : Nat) (xs : List Int) (c : Bool) (h : Ral w bt bs xs c) (h3 : In3 xs) (hov : (ro xs 0 xs.length c).2 = true) :
    Calls Try.prog 32 #[.pointer (some ⟨bt, 0, none⟩)] w fun e w' => e = .returned (.slice none 0 0) ∧ Drawn0 w w' := by
  have HO := Aside0.mk (routcome_ w bt bs xs c h h3)
  clear h h3
  rw [hov] at HO
  clear hov
  go_enter Try.func32, Try.ntmps32
  go_wp2_with (go_at_call 29; (with_reducible refine HO.out.mono ?_); rintro e w' ⟨rfl, ⟨nd, rfl⟩⟩)
  go_ret
  exact ⟨rfl, by repeat (first | exact Drawn0.refl _ | apply Drawn0.step)⟩
set_option maxHeartbeats 4000000 in
set_option maxRecDepth 100000 in
theorem rwaits_open (w : World) (bt bs : Nat) (xs : List Int) (c : Bool) (h : Ral w bt bs xs c) (h3 : In3 xs) (hov : (ro xs 0 xs.length c).2 = false) :
    Calls Try.prog 32 #[.pointer (some ⟨bt, 0, none⟩)] w fun e w' => ∃ v0_ : Value, e = .returned (v0_) ∧ Kd.R (Kd.int .i64) 3 w' w.heap.size (fun _ => True) v0_ (wt xs 0) ∧ Below w.heap.size w w' := by
  have HOC := Aside0.mk (routcome_ w bt bs xs c h h3)
  rw [hov] at HOC
  have c0 := h.p0
  have hlen := h.len
  have HS := Aside0.mk h.said
  clear h h3 hov
  have HB := Aside0.mk (Below.refl w.heap.size w)
  go_enter Try.func32, Try.ntmps32
  go_wp2_with (go_at_call 29; (with_reducible refine HOC.out.mono ?_); rintro e w' ⟨rfl, ⟨nd, rfl⟩⟩)
  go_loopg [3, 19] xs.length (fun gq v3 v19 w' => ∃ (acc : List Int) (n : Nat), v19 = .int .i64 (n : Int) ∧ n ≤ xs.length ∧ Aside0 (acc ++ wt (xs.drop n) n = wt xs 0) ∧ Aside0 (acc.length ≤ n) ∧ Aside0 (gq + n = xs.length) ∧ Aside0 (Kd.R (Kd.int .i64) 3 w' w.heap.size (fun _ => True) v3 acc) ∧ Aside0 (Below w.heap.size w w'))
  case atStart => exact ⟨[], 0, rfl, Nat.zero_le _, ⟨rfl⟩, ⟨Nat.le_refl _⟩, ⟨rfl⟩, ⟨Kd.R_nil _ _ _ _ _⟩, ⟨by repeat (first | (with_reducible first | exact HB.out | apply below_alloc | apply pw_below_drewN | apply below_drew1) | exact HB.out)⟩⟩
  case round =>
    clear HB
    obtain ⟨acc, n, rfl, hn, HE, HL, HG, HO_5, HB⟩ := hrel
    by_cases hlt : n < xs.length
    · have hx1 := (HB.out.cell (World.block_lt_of_cell? w _ (HS.out n hlt).1)).trans (HS.out n hlt).1
      have HE2 : Aside0 (acc ++ wt (xs.getD n 0 :: xs.drop (n + 1)) n = wt xs 0) := ⟨by rw [← drop_at xs n hlt]; exact HE.out⟩
      clear HE
      generalize xs.getD n 0 = s at *
      by_cases hs : s = 0
      · subst hs
        have HE : Aside0 ((acc ++ [(n : Int)]) ++ wt (xs.drop (n + 1)) ((n + 1 : Nat) : Int) = wt xs 0) := ⟨by have h := HE2.out; rw [wt, if_pos rfl] at h; rw [List.append_assoc]; exact h⟩
        clear HE2
        obtain ⟨y, hy⟩ : ∃ y_ : List Int, y_ = acc ++ [(n : Int)] := ⟨_, rfl⟩
        have Ny := Aside0.mk hy
        clear hy
        go_wp2_with (((with_reducible refine gate_builtin (b := .append) (xs := #[.tmp 26, .tmp 28]) rfl ?_); at_builtin; refine Kd.R_append (Kd.int .i64) (w0 := w) w.heap.size rfl (.tmp 26) (.tmp 28) 43 3 (.int .i64 0) 8 rfl Try.underlying43 info3 rfl (by decide) (by omega) u3 acc (n : Int) [.int .i64 (n : Int)] (fun _ => True) (fun _ => False) rfl rfl ?aP (fun _ hk => hk.elim) ?aF ?aO ?aB ?aS ?aL ?_; (case aP => exact rfl); (case aB => exact (by repeat (first | (with_reducible first | exact HB.out | apply below_alloc | apply pw_below_drewN | apply below_drew1) | exact HB.out))); (case aF => exact (fun _ _ => trivial)); (case aO => exact (by (with_reducible repeat (first | apply Kd.R_alloc | apply Kd.R_drewN | apply Kd.R_drew)); exact HO_5.out)); (case aS => exact (below_size (by repeat (first | (with_reducible first | exact HB.out | apply below_alloc | apply pw_below_drewN | apply below_drew1) | exact HB.out)))); (case aL => have := HL.out; omega); intro v107 w9 ho hb hg hat; rw [← Ny.out] at ho; have n0_ := Aside0.mk (hb); have n1_ := Aside0.mk (ho); clear HB; clear HO_5; have HB := n0_; have HO108 := n1_; clear n0_ n1_; clear ho hb hg hat))
        go_roundg (xs.length - (n + 1))
        case measure => have := HG.out; omega
        case rel => exact ⟨y, n + 1, by go_num, hlt, ⟨by rw [Ny.out]; exact HE.out⟩, ⟨by rw [Ny.out]; have := HL.out; simp; omega⟩, ⟨by omega⟩, ⟨by (with_reducible repeat (first | apply Kd.R_alloc | apply Kd.R_drewN | apply Kd.R_drew)); exact HO108.out⟩, ⟨by repeat (first | (with_reducible first | exact HB.out | apply below_alloc | apply pw_below_drewN | apply below_drew1) | exact HB.out)⟩⟩
      · have HE : Aside0 (acc ++ wt (xs.drop (n + 1)) ((n + 1 : Nat) : Int) = wt xs 0) := ⟨by have h := HE2.out; rw [wt, if_neg hs] at h; exact h⟩
        clear HE2
        have hs1 : (s == 0) = false := beq_eq_false_iff_ne.mpr hs
        go_wp2
        go_roundg (xs.length - (n + 1))
        case measure => have := HG.out; omega
        case rel => exact ⟨acc, n + 1, by go_num, hlt, HE, ⟨by have := HL.out; omega⟩, ⟨by omega⟩, ⟨by (with_reducible repeat (first | apply Kd.R_alloc | apply Kd.R_drewN | apply Kd.R_drew)); exact HO_5.out⟩, ⟨by repeat (first | (with_reducible first | exact HB.out | apply below_alloc | apply pw_below_drewN | apply below_drew1) | exact HB.out)⟩⟩
    · have HE2 : Aside0 (acc = wt xs 0) := ⟨by have h := HE.out; rw [List.drop_eq_nil_of_le (by omega), wt, List.append_nil] at h; exact h⟩
      clear HE
      go_wp2
      go_ret
      exact ⟨_, rfl, by rw [← HE2.out]; (with_reducible repeat (first | apply Kd.R_alloc | apply Kd.R_drewN | apply Kd.R_drew)); exact HO_5.out, by repeat (first | (with_reducible first | exact HB.out | apply below_alloc | apply pw_below_drewN | apply below_drew1) | exact HB.out)⟩

theorem ral_new (w : World) (m : Nat) (hm : m ≤ 64) : Ral ((w.alloc (.cells (made m) 3)).alloc (.cells #[.slice (some ⟨w.heap.size, 0, none⟩) m m, .bool false] 60)) (w.heap.size + 1) w.heap.size (List.replicate m 0) false := by
  have own := (show (w.alloc (.cells (made m) 3)).ownsRow 0 3 1 _ m _ from own_made w 0 3 .i64 m (Nat.zero_le _) (by omega))
  have hs : (w.alloc (.cells (made m) 3)).heap.size = w.heap.size + 1 := by simp
  generalize w.alloc (.cells (made m) 3) = W at *
  have hb := below_alloc (Below.refl W.heap.size W) (.cells #[.slice (some ⟨w.heap.size, 0, none⟩) m m, .bool false] 60)
  have hB := hb.block w.heap.size (by omega)
  rw [← hs]
  refine ⟨by rw [List.length_replicate]; go_simp, by go_simp, by go_simp, fun j hj => ?_, by omega, by rw [List.length_replicate]; exact hm, by simp, by simp; omega⟩
  rw [List.length_replicate] at hj
  have h := own_at_of (enc := Value.int .i64) (d := (0 : Int)) own (j : Int) (by omega) (by simpa using hj)
  rw [Int.toNat_natCast] at h
  rw [cell_of hB, frozen_of hB]
  refine ⟨?_, h.2⟩
  rw [h.1]
  simp [rdOf]
def RNewAt (w : World) (m : Nat) (e : Ending) (w' : World) : Prop := ∃ bt bs, e = .returned (.pointer (some ⟨bt, 0, none⟩)) ∧ w.heap.size ≤ bt ∧ w.heap.size ≤ bs ∧ Ral w' bt bs (List.replicate m 0) false ∧ Below w.heap.size w w'
theorem rnew_ (n : Int) (w : World) (h0 : -9223372036854775808 ≤ n) (h1 : n ≤ 9223372036854775807) :
    Calls Try.prog 23 #[.int .i64 n] w (RNewAt w (most n)) := by
  have bel : ∀ o o', Below w.heap.size w ((w.alloc o).alloc o') := fun o o' => below_alloc (below_alloc (Below.refl _ _) o) o'
  by_cases hlo : n ≤ 1
  · have e : most n = 1 := by unfold most; omega
    rw [e]
    have hmk : ∀ W : World, (Instr.makeSlice 43 (.int .i64 1) (.int .i64 1)).run Try.prog W = .ok (.slice (some ⟨W.heap.size, 0, none⟩) 1 1) (W.alloc (.cells (made 1) 3)) := print_make_of (P := Try.prog) 43 3 (.int .i64 0) 8 Try.underlying43 info3 rfl (by decide) 1 (by omega)
    have hT := Aside0.mk (ral_new w 1 (by omega))
    have HB := Aside0.mk bel
    clear e bel
    go_enter Try.func23, Try.ntmps23
    go_wp2
    all_goals
      go_ret
      exact ⟨w.heap.size + 1, w.heap.size, rfl, by omega, Nat.le_refl _, hT.out, HB.out _ _⟩
  · by_cases hhi : 64 < n
    · have e : most n = 64 := by unfold most; omega
      rw [e]
      have hmk : ∀ W : World, (Instr.makeSlice 43 (.int .i64 64) (.int .i64 64)).run Try.prog W = .ok (.slice (some ⟨W.heap.size, 0, none⟩) 64 64) (W.alloc (.cells (made 64) 3)) := print_make_of (P := Try.prog) 43 3 (.int .i64 0) 8 Try.underlying43 info3 rfl (by decide) 64 (by omega)
      have hT := Aside0.mk (ral_new w 64 (by omega))
      have HB := Aside0.mk bel
      clear e bel
      go_enter Try.func23, Try.ntmps23
      go_wp2
      all_goals
        go_ret
        exact ⟨w.heap.size + 1, w.heap.size, rfl, by omega, Nat.le_refl _, hT.out, HB.out _ _⟩
    · obtain ⟨m, rfl⟩ := Int.eq_ofNat_of_zero_le (a := n) (by omega)
      have e : most (m : Int) = m := by unfold most; omega
      rw [e]
      have hmk : ∀ W : World, (Instr.makeSlice 43 (.int .i64 (m : Int)) (.int .i64 (m : Int))).run Try.prog W = .ok (.slice (some ⟨W.heap.size, 0, none⟩) m m) (W.alloc (.cells (made m) 3)) := print_make_of (P := Try.prog) 43 3 (.int .i64 0) 8 Try.underlying43 info3 rfl (by decide) m (by omega)
      have hT := Aside0.mk (ral_new w m (by omega))
      have HB := Aside0.mk bel
      clear e bel
      go_enter Try.func23, Try.ntmps23
      go_wp2
      all_goals
        go_ret
        exact ⟨w.heap.size + 1, w.heap.size, rfl, by omega, Nat.le_refl _, hT.out, HB.out _ _⟩

/-! ### Say -/
set_option maxHeartbeats 2000000 in
theorem rsay_over (w : World) (bt bs : Nat) (xs : List Int) (c : Bool) (T : Ral w bt bs xs c) (h3 : In3 xs) (hov : (ro xs 0 xs.length c).2 = true) (i : Int) (b : Bool) :
    Calls Try.prog 27 #[.pointer (some ⟨bt, 0, none⟩), .int .i64 i, .bool b] w fun e w' => e = .returned (.bool false) ∧ Drawn0 w w' := by
  have HOC := Aside0.mk (routcome_ w bt bs xs c T h3)
  rw [hov] at HOC
  clear T h3 hov
  go_enter Try.func27, Try.ntmps27
  go_wp2_with (go_at_call 29; (with_reducible refine HOC.out.mono ?_); rintro e w' ⟨rfl, ⟨nd, rfl⟩⟩)
  go_ret
  exact ⟨rfl, by repeat (first | exact Drawn0.refl _ | apply Drawn0.step)⟩
set_option maxHeartbeats 2000000 in
theorem rsay_out (w : World) (bt bs : Nat) (xs : List Int) (c : Bool) (T : Ral w bt bs xs c) (h3 : In3 xs) (hov : (ro xs 0 xs.length c).2 = false) (i : Int) (b : Bool) (hi : i < 0 ∨ 0 ≤ i ∧ (xs.length : Int) ≤ i) :
    Calls Try.prog 27 #[.pointer (some ⟨bt, 0, none⟩), .int .i64 i, .bool b] w fun e w' => e = .returned (.bool false) ∧ Drawn0 w w' := by
  have HOC := Aside0.mk (routcome_ w bt bs xs c T h3)
  rw [hov] at HOC
  have c0 := T.p0
  clear T h3 hov
  rcases hi with hi | ⟨hi0, hi⟩
  all_goals
    go_enter Try.func27, Try.ntmps27
    go_wp2_with (go_at_call 29; (with_reducible refine HOC.out.mono ?_); rintro e w' ⟨rfl, ⟨nd, rfl⟩⟩)
    go_ret
    exact ⟨rfl, by repeat (first | exact Drawn0.refl _ | apply Drawn0.step)⟩
set_option maxHeartbeats 2000000 in
theorem rsay_said (w : World) (bt bs : Nat) (xs : List Int) (c : Bool) (T : Ral w bt bs xs c) (h3 : In3 xs) (hov : (ro xs 0 xs.length c).2 = false) (j : Nat) (h : j < xs.length) (b : Bool) (hs : xs.getD j 0 ≠ 0) :
    Calls Try.prog 27 #[.pointer (some ⟨bt, 0, none⟩), .int .i64 (j : Int), .bool b] w fun e w' => e = .returned (.bool (xs.getD j 0 == word b)) ∧ Drawn0 w w' := by
  have HOC := Aside0.mk (routcome_ w bt bs xs c T h3)
  rw [hov] at HOC
  have c0 := T.p0
  have hlen := T.len
  have cj := (T.said j h).1
  clear T h3 hov
  generalize xs.getD j 0 = s at *
  have s1 : (s != 0) = true := bne_iff_ne.mpr hs
  clear hs
  cases b
  all_goals
    go_enter Try.func27, Try.ntmps27
    go_wp2_with (go_at_call 29; (with_reducible refine HOC.out.mono ?_); rintro e w' ⟨rfl, ⟨nd, rfl⟩⟩)
    go_ret
    exact ⟨rfl, by repeat (first | exact Drawn0.refl _ | apply Drawn0.step)⟩
set_option maxHeartbeats 2000000 in
theorem rsay_new (w : World) (bt bs : Nat) (xs : List Int) (c : Bool) (T : Ral w bt bs xs c) (h3 : In3 xs) (hov : (ro xs 0 xs.length c).2 = false) (j : Nat) (h : j < xs.length) (b : Bool) (hs : xs.getD j 0 = 0) :
    Calls Try.prog 27 #[.pointer (some ⟨bt, 0, none⟩), .int .i64 (j : Int), .bool b] w fun e w' => e = .returned (.bool true) ∧ Ral w' bt bs (xs.set j (word b)) c ∧ Fr (fun k => k = bs) w w' := by
  have HOC := Aside0.mk (routcome_ w bt bs xs c T h3)
  rw [hov] at HOC
  have c0 := T.p0
  have hlen := T.len
  have cj := (T.said j h).1
  have fj := (T.said j h).2
  have HT := Aside0.mk (fun n => (T.below (pw_below_drewN (Below.refl _ _) n)).set j h (word b))
  clear T h3 hov
  rw [hs] at cj
  clear hs
  cases b
  all_goals
    go_enter Try.func27, Try.ntmps27
    go_wp2_with (go_at_call 29; (with_reducible refine HOC.out.mono ?_); rintro e w' ⟨rfl, ⟨nd, rfl⟩⟩)
    go_ret
    exact ⟨rfl, HT.out _, (Fr.of_below (S := fun k => k = bs) (pw_below_drewN (Below.refl _ _) _)).set rfl _⟩
end Go.Proofs.Ytnchlddbcomokaa.Ty

/- The contracts of the tally's functions: New, Close, Outcome, Waits, Say, on a tally that lies in memory and on none. -/
import Derived.Test.YtnchlddbcomokaaHx0
namespace Go.Proofs.Ytnchlddbcomokaa.Ty
open Go.RowKit Go.Proofs.YtnchlddbcomokaaW.PrintWords Go.Proofs.YtnchlddbcomokaaW.PrintLast Go.Proofs.YtnchlddbcomokaaW.PrintMore
attribute [local go_sem] max2_int min2_int max_two min_two max_three min_three max_four min_four
set_option linter.unusedVariables false
set_option linter.unusedSimpArgs false
theorem info3 : (Try.prog.info? 3).map (fun i => (i.zero, i.size, i.bytes)) = some (some (.int .i64 0), 1, 8) := by kernel_rfl

/-- What a call leaves as it was: all but the blocks of S. -/
structure Fr (S : Nat → Prop) (w w' : World) : Prop where
  os : w'.os = w.os
  tape : w'.tape = w.tape
  output : w'.output = w.output
  size : w.heap.size ≤ w'.heap.size
  block : ∀ k, k < w.heap.size → ¬ S k → w'.heap[k]? = w.heap[k]?
theorem Fr.of_below {S : Nat → Prop} {w w' : World} (h : Below w.heap.size w w') : Fr S w w' := ⟨h.os, h.tape, h.output, h.size, fun k hk _ => h.block k hk⟩
theorem Fr.refl (S : Nat → Prop) (w : World) : Fr S w w := Fr.of_below (Below.refl _ _)
theorem Fr.trans {S : Nat → Prop} {w w1 w2 : World} (h : Fr S w w1) (k : Fr S w1 w2) : Fr S w w2 :=
  ⟨k.os.trans h.os, k.tape.trans h.tape, k.output.trans h.output, Nat.le_trans h.size k.size, fun i hi hn => (k.block i (Nat.lt_of_lt_of_le hi h.size) hn).trans (h.block i hi hn)⟩
theorem Fr.mono {S S' : Nat → Prop} {w w' : World} (h : Fr S w w') (hs : ∀ k, S k → S' k) : Fr S' w w' := ⟨h.os, h.tape, h.output, h.size, fun k hk hn => h.block k hk (fun s => hn (hs k s))⟩
theorem Fr.set {S : Nat → Prop} {w w1 : World} (h : Fr S w w1) {p : Addr} (hp : S p.block) (u : Value) : Fr S w (w1.setCell p u) :=
  ⟨h.os, h.tape, h.output, by simpa [World.setCell] using h.size, fun k hk hn => (Below.heap_setCell w1 p u k (fun e => hn (e ▸ hp))).trans (h.block k hk hn)⟩
theorem Fr.below {S : Nat → Prop} {B : Nat} {a w w' : World} (hb : Below B a w) (h : Fr S w w') (hs : ∀ k, S k → B ≤ k) (hB : B ≤ w.heap.size) : Below B a w' :=
  hb.trans ⟨h.os, h.tape, h.output, h.size, fun k hk => h.block k (by omega) (fun s => by have := hs k s; omega)⟩
theorem cell_of {w w' : World} {b : Nat} (h : w'.heap[b]? = w.heap[b]?) (i : Nat) : w'.cell? ⟨b, i, none⟩ = w.cell? ⟨b, i, none⟩ := by simp [World.cell?, h]
theorem frozen_of {w w' : World} {b : Nat} (h : w'.heap[b]? = w.heap[b]?) (i : Nat) : w'.frozen? ⟨b, i, none⟩ = w.frozen? ⟨b, i, none⟩ := by simp [World.frozen?, h]
theorem size_set (w : World) (p : Addr) (u : Value) : (w.setCell p u).heap.size = w.heap.size := by simp [World.setCell]

/-- A tally in memory: what each said, whether it is decided, the outcome. -/
structure Tal (w : World) (bt bs : Nat) (xs : List Int) (d o : Bool) : Prop where
  p0 : w.cell? ⟨bt, 0, none⟩ = some (.slice (some ⟨bs, 0, none⟩) xs.length xs.length)
  p1 : w.cell? ⟨bt, 1, none⟩ = some (.bool d)
  p2 : w.cell? ⟨bt, 2, none⟩ = some (.bool o)
  f1 : w.frozen? ⟨bt, 1, none⟩ = false
  f2 : w.frozen? ⟨bt, 2, none⟩ = false
  said : ∀ j, j < xs.length → w.cell? ⟨bs, j, none⟩ = some (.int .i64 (xs.getD j 0)) ∧ w.frozen? ⟨bs, j, none⟩ = false
  ne : bt ≠ bs
  len : xs.length ≤ 64
  it : bt < w.heap.size
  is_ : bs < w.heap.size
theorem Tal.keep {S : Nat → Prop} {w w' : World} {bt bs : Nat} {xs : List Int} {d o : Bool} (h : Tal w bt bs xs d o) (k : Fr S w w') (ht : ¬ S bt) (hs : ¬ S bs) : Tal w' bt bs xs d o := by
  have et := k.block bt h.it ht
  have es := k.block bs h.is_ hs
  exact ⟨(cell_of et 0).trans h.p0, (cell_of et 1).trans h.p1, (cell_of et 2).trans h.p2, (frozen_of et 1).trans h.f1, (frozen_of et 2).trans h.f2,
    fun j hj => ⟨(cell_of es j).trans (h.said j hj).1, (frozen_of es j).trans (h.said j hj).2⟩, h.ne, h.len, Nat.lt_of_lt_of_le h.it k.size, Nat.lt_of_lt_of_le h.is_ k.size⟩
theorem Tal.below {w w' : World} {bt bs : Nat} {xs : List Int} {d o : Bool} (h : Tal w bt bs xs d o) (k : Below w.heap.size w w') : Tal w' bt bs xs d o :=
  h.keep (Fr.of_below (S := fun _ => False) k) (fun x => x) (fun x => x)
theorem Tal.drewN {w : World} {bt bs : Nat} {xs : List Int} {d o : Bool} (h : Tal w bt bs xs d o) (n : Nat) : Tal (w.drewN n) bt bs xs d o := h.below (pw_below_drewN (Below.refl _ _) n)
theorem Tal.set {w : World} {bt bs : Nat} {xs : List Int} {d o : Bool} (h : Tal w bt bs xs d o) (j : Nat) (hj : j < xs.length) (v : Int) : Tal (w.setCell ⟨bs, j, none⟩ (.int .i64 v)) bt bs (xs.set j v) d o := by
  have ht := Below.heap_setCell w ⟨bs, j, none⟩ (.int .i64 v) bt h.ne
  refine ⟨by rw [List.length_set]; exact (cell_of ht 0).trans h.p0, (cell_of ht 1).trans h.p1, (cell_of ht 2).trans h.p2, (frozen_of ht 1).trans h.f1, (frozen_of ht 2).trans h.f2, fun i hi => ?_, h.ne, by rw [List.length_set]; exact h.len, by rw [size_set]; exact h.it, by rw [size_set]; exact h.is_⟩
  rw [List.length_set] at hi
  refine ⟨?_, by rw [World.frozen?_setCell]; exact (h.said i hi).2⟩
  by_cases e : j = i
  · subst e
    rw [World.cell?_setCell_same _ _ _ (h.said j hi).1]
    simp [List.getD_eq_getElem?_getD, hj]
  · rw [World.cell?_setCell_other _ _ _ _ (by simp [e]), (h.said i hi).1]
    simp [List.getD_eq_getElem?_getD, List.getElem?_set, e]
theorem Tal.dec {w : World} {bt bs : Nat} {xs : List Int} {d o : Bool} (h : Tal w bt bs xs d o) (v : Bool) : Tal (w.setCell ⟨bt, 1, none⟩ (.bool v)) bt bs xs v o := by
  have hs := Below.heap_setCell w ⟨bt, 1, none⟩ (.bool v) bs (Ne.symm h.ne)
  exact ⟨(World.cell?_setCell_other _ _ _ _ (by simp)).trans h.p0, World.cell?_setCell_same _ _ _ h.p1, (World.cell?_setCell_other _ _ _ _ (by simp)).trans h.p2, by rw [World.frozen?_setCell]; exact h.f1, by rw [World.frozen?_setCell]; exact h.f2,
    fun i hi => ⟨(cell_of hs i).trans (h.said i hi).1, (frozen_of hs i).trans (h.said i hi).2⟩, h.ne, h.len, by rw [size_set]; exact h.it, by rw [size_set]; exact h.is_⟩
theorem Tal.out {w : World} {bt bs : Nat} {xs : List Int} {d o : Bool} (h : Tal w bt bs xs d o) (v : Bool) : Tal (w.setCell ⟨bt, 2, none⟩ (.bool v)) bt bs xs d v := by
  have hs := Below.heap_setCell w ⟨bt, 2, none⟩ (.bool v) bs (Ne.symm h.ne)
  exact ⟨(World.cell?_setCell_other _ _ _ _ (by simp)).trans h.p0, (World.cell?_setCell_other _ _ _ _ (by simp)).trans h.p1, World.cell?_setCell_same _ _ _ h.p2, by rw [World.frozen?_setCell]; exact h.f1, by rw [World.frozen?_setCell]; exact h.f2,
    fun i hi => ⟨(cell_of hs i).trans (h.said i hi).1, (frozen_of hs i).trans (h.said i hi).2⟩, h.ne, h.len, by rw [size_set]; exact h.it, by rw [size_set]; exact h.is_⟩

/-! ### Close -/
theorem close_nil (w : World) : Calls Try.prog 24 #[.pointer none] w fun e w' => e = .returned (.tuple #[]) ∧ w = w' := by
  go_enter Try.func24, Try.ntmps24
  go_wp2
  first | go_end0 | ((try simp only [Exit.inBlock, Exit.then]); refine bodyPost_ret (results_none rfl _ _ _) rfl ?_)
  exact ⟨rfl, rfl⟩
theorem close_ (w : World) (bt bs : Nat) (xs : List Int) (d o : Bool) (h : Tal w bt bs xs d o) :
    Calls Try.prog 24 #[.pointer (some ⟨bt, 0, none⟩)] w fun e w' => e = .returned (.tuple #[]) ∧ Tal w' bt bs xs true o ∧ Fr (· = bt) w w' := by
  have c1 := h.p1
  have z1 := h.f1
  have H := Aside0.mk h
  clear h
  go_enter Try.func24, Try.ntmps24
  go_wp2
  first | go_end0 | ((try simp only [Exit.inBlock, Exit.then]); refine bodyPost_ret (results_none rfl _ _ _) rfl ?_)
  exact ⟨rfl, H.out.dec true, (Fr.refl (fun k => k = bt) _).set rfl _⟩

/-! ### Outcome -/
theorem outcome_nil (w : World) : Calls Try.prog 28 #[.pointer none] w fun e w' => e = .returned (.tuple #[.bool false, .bool false]) ∧ w = w' := by
  go_enter Try.func28, Try.ntmps28
  go_wp2
  go_ret2
  exact ⟨rfl, rfl⟩
theorem outcome_ (w : World) (bt bs : Nat) (xs : List Int) (d o : Bool) (h : Tal w bt bs xs d o) :
    Calls Try.prog 28 #[.pointer (some ⟨bt, 0, none⟩)] w fun e w' => e = .returned (.tuple #[.bool o, .bool d]) ∧ Drawn0 w w' := by
  have c1 := h.p1
  have c2 := h.p2
  clear h
  go_enter Try.func28, Try.ntmps28
  go_wp2
  go_quiet (fail)
  go_wp2
  go_ret2
  exact ⟨rfl, by repeat (first | exact Drawn0.refl _ | apply Drawn0.step)⟩

/-! ### Waits -/
/-- Who said nothing, from number i on. -/
def wt : List Int → Int → List Int
  | [], _ => []
  | s :: l, i => if s = 0 then i :: wt l (i + 1) else wt l (i + 1)
theorem wt_length : ∀ (l : List Int) (i : Int), (wt l i).length ≤ l.length
  | [], _ => by simp [wt]
  | s :: l, i => by
    have h1 := wt_length l (i + 1)
    unfold wt
    split
    · simp; omega
    · simp; omega
theorem waits_nil (w : World) : Calls Try.prog 31 #[.pointer none] w fun e w' => e = .returned (.slice none 0 0) ∧ w = w' := by
  go_enter Try.func31, Try.ntmps31
  go_wp2
  go_ret
  exact ⟨rfl, rfl⟩
theorem waits_over (w : World) (bt bs : Nat) (xs : List Int) (o : Bool) (h : Tal w bt bs xs true o) :
    Calls Try.prog 31 #[.pointer (some ⟨bt, 0, none⟩)] w fun e w' => e = .returned (.slice none 0 0) ∧ w = w' := by
  have c1 := h.p1
  clear h
  go_enter Try.func31, Try.ntmps31
  go_wp2
  go_ret
  exact ⟨rfl, rfl⟩
theorem drop_at (l : List Int) (i : Nat) (h : i < l.length) : l.drop i = l.getD i 0 :: l.drop (i + 1) := by
  rw [List.drop_eq_getElem_cons h, List.getD_eq_getElem?_getD, List.getElem?_eq_getElem h]
  rfl
set_option maxHeartbeats 4000000 in
set_option maxRecDepth 100000 in
theorem waits_open (w : World) (bt bs : Nat) (xs : List Int) (o : Bool) (h : Tal w bt bs xs false o) :
    Calls Try.prog 31 #[.pointer (some ⟨bt, 0, none⟩)] w fun e w' => ∃ v0_ : Value, e = .returned (v0_) ∧ Kd.R (Kd.int .i64) 3 w' w.heap.size (fun _ => True) v0_ (wt xs 0) ∧ Below w.heap.size w w' := by
  have c0 := h.p0
  have c1 := h.p1
  have hlen := h.len
  have HS := Aside0.mk h.said
  have HI := Aside0.mk h.is_
  clear h
  have HB := Aside0.mk (Below.refl w.heap.size w)
  go_enter Try.func31, Try.ntmps31
  go_wp2
  go_loopg [3, 19] xs.length (fun gq v3 v19 w' => ∃ (acc : List Int) (n : Nat), v19 = .int .i64 (n : Int) ∧ n ≤ xs.length ∧ Aside0 (acc ++ wt (xs.drop n) n = wt xs 0) ∧ Aside0 (acc.length ≤ n) ∧ Aside0 (gq + n = xs.length) ∧ Aside0 (Kd.R (Kd.int .i64) 3 w' w.heap.size (fun _ => True) v3 acc) ∧ Aside0 (Below w.heap.size w w'))
  case atStart => exact ⟨[], 0, rfl, Nat.zero_le _, ⟨rfl⟩, ⟨Nat.le_refl _⟩, ⟨rfl⟩, ⟨Kd.R_nil _ _ _ _ _⟩, HB⟩
  case round =>
    clear HB
    obtain ⟨acc, n, rfl, hn, HE, HL, HG, HO_5, HB⟩ := hrel
    by_cases hlt : n < xs.length
    · have hx1 := (HB.out.cell (World.block_lt_of_cell? w _ (HS.out n hlt).1)).trans (HS.out n hlt).1
      have HE2 : Aside0 (acc ++ wt (xs.getD n 0 :: xs.drop (n + 1)) n = wt xs 0) := ⟨by rw [← drop_at xs n hlt]; exact HE.out⟩
      clear HE
      generalize xs.getD n 0 = s at *
      by_cases hs : s = 0
      · subst hs
        have HE : Aside0 ((acc ++ [(n : Int)]) ++ wt (xs.drop (n + 1)) ((n + 1 : Nat) : Int) = wt xs 0) := ⟨by have h := HE2.out; rw [wt, if_pos rfl] at h; rw [List.append_assoc]; exact h⟩
        clear HE2
        obtain ⟨y, hy⟩ : ∃ y_ : List Int, y_ = acc ++ [(n : Int)] := ⟨_, rfl⟩
        have Ny := Aside0.mk hy
        clear hy
        go_wp2_with (((with_reducible refine gate_builtin (b := .append) (xs := #[.tmp 26, .tmp 28]) rfl ?_); at_builtin; refine Kd.R_append (Kd.int .i64) (w0 := w) w.heap.size rfl (.tmp 26) (.tmp 28) 43 3 (.int .i64 0) 8 rfl Try.underlying43 info3 rfl (by decide) (by omega) u3 acc (n : Int) [.int .i64 (n : Int)] (fun _ => True) (fun _ => False) rfl rfl ?aP (fun _ hk => hk.elim) ?aF ?aO ?aB ?aS ?aL ?_; (case aP => exact rfl); (case aB => exact (by repeat (first | (with_reducible first | exact HB.out | apply below_alloc | apply pw_below_drewN | apply below_drew1) | exact HB.out))); (case aF => exact (fun _ _ => trivial)); (case aO => exact (by (with_reducible repeat (first | apply Kd.R_alloc | apply Kd.R_drewN | apply Kd.R_drew)); exact HO_5.out)); (case aS => exact (below_size (by repeat (first | (with_reducible first | exact HB.out | apply below_alloc | apply pw_below_drewN | apply below_drew1) | exact HB.out)))); (case aL => have := HL.out; omega); intro v107 w9 ho hb hg hat; rw [← Ny.out] at ho; have n0_ := Aside0.mk (hb); have n1_ := Aside0.mk (ho); clear HB; clear HO_5; have HB := n0_; have HO108 := n1_; clear n0_ n1_; clear ho hb hg hat))
        go_roundg (xs.length - (n + 1))
        case measure => have := HG.out; omega
        case rel => exact ⟨y, n + 1, by go_num, hlt, ⟨by rw [Ny.out]; exact HE.out⟩, ⟨by rw [Ny.out]; have := HL.out; simp; omega⟩, ⟨by omega⟩, ⟨by (with_reducible repeat (first | apply Kd.R_alloc | apply Kd.R_drewN | apply Kd.R_drew)); exact HO108.out⟩, ⟨by repeat (first | (with_reducible first | exact HB.out | apply below_alloc | apply pw_below_drewN | apply below_drew1) | exact HB.out)⟩⟩
      · have HE : Aside0 (acc ++ wt (xs.drop (n + 1)) ((n + 1 : Nat) : Int) = wt xs 0) := ⟨by have h := HE2.out; rw [wt, if_neg hs] at h; exact h⟩
        clear HE2
        have hs1 : (s == 0) = false := beq_eq_false_iff_ne.mpr hs
        go_wp2
        go_roundg (xs.length - (n + 1))
        case measure => have := HG.out; omega
        case rel => exact ⟨acc, n + 1, by go_num, hlt, HE, ⟨by have := HL.out; omega⟩, ⟨by omega⟩, ⟨by (with_reducible repeat (first | apply Kd.R_alloc | apply Kd.R_drewN | apply Kd.R_drew)); exact HO_5.out⟩, ⟨by repeat (first | (with_reducible first | exact HB.out | apply below_alloc | apply pw_below_drewN | apply below_drew1) | exact HB.out)⟩⟩
    · have HE2 : Aside0 (acc = wt xs 0) := ⟨by have h := HE.out; rw [List.drop_eq_nil_of_le (by omega), wt, List.append_nil] at h; exact h⟩
      clear HE
      go_wp2
      go_ret
      exact ⟨_, rfl, by rw [← HE2.out]; (with_reducible repeat (first | apply Kd.R_alloc | apply Kd.R_drewN | apply Kd.R_drew)); exact HO_5.out, by repeat (first | (with_reducible first | exact HB.out | apply below_alloc | apply pw_below_drewN | apply below_drew1) | exact HB.out)⟩

/-! ### New -/
def most (n : Int) : Nat := (max 1 (min n 64)).toNat
theorem most_le_ (n : Int) : 1 ≤ most n ∧ most n ≤ 64 := by unfold most; omega
/-- The block that New makes, under a name: the walk would write it out. -/
def made (m : Nat) : Array Value := madeCells #[Value.int .i64 0] m
theorem tal_new (w : World) (m : Nat) (hm : m ≤ 64) : Tal ((w.alloc (.cells (made m) 3)).alloc (.cells #[.slice (some ⟨w.heap.size, 0, none⟩) m m, .bool false, .bool false] 58)) (w.heap.size + 1) w.heap.size (List.replicate m 0) false false := by
  have own := (show (w.alloc (.cells (made m) 3)).ownsRow 0 3 1 _ m _ from own_made w 0 3 .i64 m (Nat.zero_le _) (by omega))
  have hs : (w.alloc (.cells (made m) 3)).heap.size = w.heap.size + 1 := by simp
  generalize w.alloc (.cells (made m) 3) = W at *
  have hb := below_alloc (Below.refl W.heap.size W) (.cells #[.slice (some ⟨w.heap.size, 0, none⟩) m m, .bool false, .bool false] 58)
  have hB := hb.block w.heap.size (by omega)
  rw [← hs]
  refine ⟨by rw [List.length_replicate]; go_simp, by go_simp, by go_simp, by go_simp, by go_simp, fun j hj => ?_, by omega, by rw [List.length_replicate]; exact hm, by simp, by simp; omega⟩
  rw [List.length_replicate] at hj
  have h := own_at_of (enc := Value.int .i64) (d := (0 : Int)) own (j : Int) (by omega) (by simpa using hj)
  rw [Int.toNat_natCast] at h
  rw [cell_of hB, frozen_of hB]
  refine ⟨?_, h.2⟩
  rw [h.1]
  simp [rdOf]
def NewAt (w : World) (m : Nat) (e : Ending) (w' : World) : Prop := ∃ bt bs, e = .returned (.pointer (some ⟨bt, 0, none⟩)) ∧ w.heap.size ≤ bt ∧ w.heap.size ≤ bs ∧ Tal w' bt bs (List.replicate m 0) false false ∧ Below w.heap.size w w'
theorem new_ (n : Int) (w : World) (h0 : -9223372036854775808 ≤ n) (h1 : n ≤ 9223372036854775807) :
    Calls Try.prog 22 #[.int .i64 n] w (NewAt w (most n)) := by
  have bel : ∀ o o', Below w.heap.size w ((w.alloc o).alloc o') := fun o o' => below_alloc (below_alloc (Below.refl _ _) o) o'
  by_cases hlo : n ≤ 1
  · have e : most n = 1 := by unfold most; omega
    rw [e]
    have hmk : ∀ W : World, (Instr.makeSlice 43 (.int .i64 1) (.int .i64 1)).run Try.prog W = .ok (.slice (some ⟨W.heap.size, 0, none⟩) 1 1) (W.alloc (.cells (made 1) 3)) := print_make_of (P := Try.prog) 43 3 (.int .i64 0) 8 Try.underlying43 info3 rfl (by decide) 1 (by omega)
    have hT := Aside0.mk (tal_new w 1 (by omega))
    have HB := Aside0.mk bel
    clear e bel
    go_enter Try.func22, Try.ntmps22
    go_wp2
    all_goals
      go_ret
      exact ⟨w.heap.size + 1, w.heap.size, rfl, by omega, Nat.le_refl _, hT.out, HB.out _ _⟩
  · by_cases hhi : 64 < n
    · have e : most n = 64 := by unfold most; omega
      rw [e]
      have hmk : ∀ W : World, (Instr.makeSlice 43 (.int .i64 64) (.int .i64 64)).run Try.prog W = .ok (.slice (some ⟨W.heap.size, 0, none⟩) 64 64) (W.alloc (.cells (made 64) 3)) := print_make_of (P := Try.prog) 43 3 (.int .i64 0) 8 Try.underlying43 info3 rfl (by decide) 64 (by omega)
      have hT := Aside0.mk (tal_new w 64 (by omega))
      have HB := Aside0.mk bel
      clear e bel
      go_enter Try.func22, Try.ntmps22
      go_wp2
      all_goals
        go_ret
        exact ⟨w.heap.size + 1, w.heap.size, rfl, by omega, Nat.le_refl _, hT.out, HB.out _ _⟩
    · obtain ⟨m, rfl⟩ := Int.eq_ofNat_of_zero_le (a := n) (by omega)
      have e : most (m : Int) = m := by unfold most; omega
      rw [e]
      have hmk : ∀ W : World, (Instr.makeSlice 43 (.int .i64 (m : Int)) (.int .i64 (m : Int))).run Try.prog W = .ok (.slice (some ⟨W.heap.size, 0, none⟩) m m) (W.alloc (.cells (made m) 3)) := print_make_of (P := Try.prog) 43 3 (.int .i64 0) 8 Try.underlying43 info3 rfl (by decide) m (by omega)
      have hT := Aside0.mk (tal_new w m (by omega))
      have HB := Aside0.mk bel
      clear e bel
      go_enter Try.func22, Try.ntmps22
      go_wp2
      all_goals
        go_ret
        exact ⟨w.heap.size + 1, w.heap.size, rfl, by omega, Nat.le_refl _, hT.out, HB.out _ _⟩

/-! ### Say -/
def word (b : Bool) : Int := if b = true then 1 else 2
theorem say_nil (w : World) (i : Int) (b : Bool) : Calls Try.prog 26 #[.pointer none, .int .i64 i, .bool b] w fun e w' => e = .returned (.bool false) ∧ w = w' := by
  cases b
  all_goals
    go_enter Try.func26, Try.ntmps26
    go_wp2
    go_ret
    exact ⟨rfl, rfl⟩
theorem say_low (w : World) (bt : Nat) (i : Int) (b : Bool) (h : i < 0) : Calls Try.prog 26 #[.pointer (some ⟨bt, 0, none⟩), .int .i64 i, .bool b] w fun e w' => e = .returned (.bool false) ∧ w = w' := by
  cases b
  all_goals
    go_enter Try.func26, Try.ntmps26
    go_wp2
    go_ret
    exact ⟨rfl, rfl⟩
theorem say_high (w : World) (bt bs : Nat) (xs : List Int) (d o : Bool) (T : Tal w bt bs xs d o) (i : Int) (b : Bool) (h0 : 0 ≤ i) (h : (xs.length : Int) ≤ i) :
    Calls Try.prog 26 #[.pointer (some ⟨bt, 0, none⟩), .int .i64 i, .bool b] w fun e w' => e = .returned (.bool false) ∧ w = w' := by
  have c0 := T.p0
  clear T
  cases b
  all_goals
    go_enter Try.func26, Try.ntmps26
    go_wp2
    go_ret
    exact ⟨rfl, rfl⟩
theorem say_over (w : World) (bt bs : Nat) (xs : List Int) (o : Bool) (T : Tal w bt bs xs true o) (i : Int) (b : Bool) (h0 : 0 ≤ i) (h : i < (xs.length : Int)) :
    Calls Try.prog 26 #[.pointer (some ⟨bt, 0, none⟩), .int .i64 i, .bool b] w fun e w' => e = .returned (.bool false) ∧ w = w' := by
  have c0 := T.p0
  have c1 := T.p1
  clear T
  cases b
  all_goals
    go_enter Try.func26, Try.ntmps26
    go_wp2
    go_ret
    exact ⟨rfl, rfl⟩
theorem say_said (w : World) (bt bs : Nat) (xs : List Int) (o : Bool) (T : Tal w bt bs xs false o) (j : Nat) (b : Bool) (h : j < xs.length) (h1 : xs.getD j 0 ≠ 0) (h2 : xs.getD j 0 ≠ word b) :
    Calls Try.prog 26 #[.pointer (some ⟨bt, 0, none⟩), .int .i64 (j : Int), .bool b] w fun e w' => e = .returned (.bool false) ∧ w = w' := by
  have c0 := T.p0
  have c1 := T.p1
  have hlen := T.len
  have cj := (T.said j h).1
  clear T
  generalize xs.getD j 0 = s at *
  have s1 : (s != 0) = true := bne_iff_ne.mpr h1
  cases b
  · have s2 : (s != 2) = true := bne_iff_ne.mpr (by simpa [word] using h2)
    clear h1 h2
    go_enter Try.func26, Try.ntmps26
    go_wp2
    go_ret
    exact ⟨rfl, rfl⟩
  · have s2 : (s != 1) = true := bne_iff_ne.mpr (by simpa [word] using h2)
    clear h1 h2
    go_enter Try.func26, Try.ntmps26
    go_wp2
    go_ret
    exact ⟨rfl, rfl⟩
/-- No. -/
theorem say_no_ (w : World) (bt bs : Nat) (xs : List Int) (o : Bool) (T : Tal w bt bs xs false o) (j : Nat) (h : j < xs.length) (hs : xs.getD j 0 = 0 ∨ xs.getD j 0 = 2) :
    Calls Try.prog 26 #[.pointer (some ⟨bt, 0, none⟩), .int .i64 (j : Int), .bool false] w fun e w' => e = .returned (.bool true) ∧ Tal w' bt bs (xs.set j 2) true o ∧ Fr (fun k => k = bt ∨ k = bs) w w' := by
  have c0 := T.p0
  have c1 := T.p1
  have hlen := T.len
  have cj := (T.said j h).1
  have fj := (T.said j h).2
  have T1 := T.set j h 2
  have d1 := T1.p1
  have f1 := T1.f1
  have H := Aside0.mk T1
  clear T T1
  generalize xs.getD j 0 = s at *
  obtain rfl | rfl := hs
  all_goals
    go_enter Try.func26, Try.ntmps26
    go_wp2
    go_ret
    exact ⟨rfl, H.out.dec true, ((Fr.refl _ _).set (.inr rfl) _).set (.inl rfl) _⟩
set_option maxHeartbeats 2000000 in
set_option maxRecDepth 100000 in
/-- Yes: the last, or somebody said nothing yet. -/
theorem say_yes_ (w : World) (bt bs : Nat) (xs : List Int) (o : Bool) (T : Tal w bt bs xs false o) (j : Nat) (h : j < xs.length) (hs : xs.getD j 0 = 0 ∨ xs.getD j 0 = 1) :
    Calls Try.prog 26 #[.pointer (some ⟨bt, 0, none⟩), .int .i64 (j : Int), .bool true] w fun e w' => e = .returned (.bool true) ∧ Tal w' bt bs (xs.set j 1) (decide (wt (xs.set j 1) 0 = [])) (if wt (xs.set j 1) 0 = [] then true else o) ∧ Fr (fun k => k = bt ∨ k = bs) w w' := by
  have c0 := T.p0
  have c1 := T.p1
  have hlen := T.len
  have cj := (T.said j h).1
  have fj := (T.said j h).2
  have T1 := T.set j h 1
  have H := Aside0.mk T1
  clear T T1
  have HW := Aside0.mk (waits_open _ _ _ _ _ H.out)
  generalize xs.getD j 0 = s at *
  generalize hys : xs.set j 1 = ys at *
  clear hys
  by_cases hz : wt ys 0 = []
  · rw [if_pos hz, decide_eq_true hz]
    have hz1 : (((wt ys 0).length : Int) == 0) = true := by rw [hz]; rfl
    clear hz
    obtain rfl | rfl := hs
    all_goals
      go_enter Try.func26, Try.ntmps26
      go_wp2_with (go_at_call 31; (with_reducible refine HW.out.mono ?_); rintro e w2 ⟨v, rfl, hR, hb⟩; obtain ⟨Ao, co, eo⟩ := Kd.R_slice hR; subst eo; have T2 := H.out.below hb; have c1b := T2.p1; have f1b := T2.f1; have c2b := (T2.dec true).p2; have f2b := (T2.dec true).f2; have H2 := Aside0.mk T2; have HB := Aside0.mk hb; clear T2 hR hb)
      go_ret
      exact ⟨rfl, (H2.out.dec true).out true, (((((Fr.refl _ _).set (.inr rfl) _).trans (Fr.of_below HB.out))).set (.inl rfl) _).set (.inl rfl) _⟩
  · rw [if_neg hz, decide_eq_false hz]
    have hz1 : (((wt ys 0).length : Int) == 0) = false := by rw [beq_eq_false_iff_ne]; have := List.length_pos_iff.mpr hz; omega
    clear hz
    obtain rfl | rfl := hs
    all_goals
      go_enter Try.func26, Try.ntmps26
      go_wp2_with (go_at_call 31; (with_reducible refine HW.out.mono ?_); rintro e w2 ⟨v, rfl, hR, hb⟩; obtain ⟨Ao, co, eo⟩ := Kd.R_slice hR; subst eo; have H2 := Aside0.mk (H.out.below hb); have HB := Aside0.mk hb; clear hR hb)
      go_ret
      exact ⟨rfl, H2.out, ((Fr.refl _ _).set (.inr rfl) _).trans (Fr.of_below HB.out)⟩
end Go.Proofs.Ytnchlddbcomokaa.Ty

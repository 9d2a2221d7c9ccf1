/- For TallyStays: the array of what was said, beside the tally; what an outcome is. -/
import Derived.Test.YtnchlddbcomokaaTyOrder
namespace Go.Proofs.Ytnchlddbcomokaa.Ty
open Go.RowKit Go.Proofs.YtnchlddbcomokaaW.PrintWords Go.Proofs.YtnchlddbcomokaaW.PrintLast Go.Proofs.YtnchlddbcomokaaW.PrintMore
set_option linter.unusedVariables false
set_option linter.unusedSimpArgs false
/-- A voice as the law's own array keeps it. -/
def sg (v : Int) : Int := if v = 1 then 1 else if v = 2 then -1 else 0
/-- What was said, as the law's own array holds it. -/
def SaidAt (w' : World) (b : Nat) (xs : List Int) : Prop := ∀ j, j < 6 → w'.cell? ⟨b, j, none⟩ = some (.int .i64 (sg (xs.getD j 0))) ∧ w'.frozen? ⟨b, j, none⟩ = false
structure Sta (w w' : World) (b bt bs m : Nat) (zs xs : List Int) (d o : Bool) : Prop where
  T : Tal w' bt bs xs d o
  zlen : zs.length = m
  len : xs.length = m
  m6 : m ≤ 6
  sn : SaidAt w' b zs
  hb : Below w.heap.size w w'
  lt : b < w'.heap.size
  b1 : w.heap.size ≤ bt
  b2 : w.heap.size ≤ bs
  b3 : w.heap.size ≤ b
  n1 : b ≠ bt
  n2 : b ≠ bs
theorem Sta.below {w w1 w2 : World} {b bt bs m : Nat} {zs xs : List Int} {d o : Bool} (h : Sta w w1 b bt bs m zs xs d o) (k : Below w1.heap.size w1 w2) : Sta w w2 b bt bs m zs xs d o :=
  ⟨h.T.below k, h.zlen, h.len, h.m6, fun j hj => ⟨(cell_of (k.block b h.lt) j).trans (h.sn j hj).1, (frozen_of (k.block b h.lt) j).trans (h.sn j hj).2⟩, h.hb.trans (k.mono h.hb.size), Nat.lt_of_lt_of_le h.lt k.size, h.b1, h.b2, h.b3, h.n1, h.n2⟩
theorem Sta.say {w w1 w2 : World} {b bt bs m : Nat} {zs xs ys : List Int} {d o d' o' : Bool} (h : Sta w w1 b bt bs m zs xs d o) (T : Tal w2 bt bs ys d' o') (f : Fr (fun k => k = bt ∨ k = bs) w1 w2) (l : ys.length = m) : Sta w w2 b bt bs m zs ys d' o' := by
  have hn : ¬ (b = bt ∨ b = bs) := fun e => e.elim h.n1 h.n2
  exact ⟨T, h.zlen, l, h.m6, fun j hj => ⟨(cell_of (f.block b h.lt hn) j).trans (h.sn j hj).1, (frozen_of (f.block b h.lt hn) j).trans (h.sn j hj).2⟩, f.below h.hb (fun k hk => by rcases hk with rfl | rfl; exact h.b1; exact h.b2) h.hb.size, Nat.lt_of_lt_of_le h.lt f.size, h.b1, h.b2, h.b3, h.n1, h.n2⟩
theorem Sta.mark {w w1 : World} {b bt bs m : Nat} {zs xs : List Int} {d o : Bool} (h : Sta w w1 b bt bs m zs xs d o) (i : Nat) (hi : i < m) (v u : Int) (hu : sg v = u) : Sta w (w1.setCell ⟨b, i, none⟩ (.int .i64 u)) b bt bs m (zs.set i v) xs d o := by
  subst hu
  have h6 := h.m6
  have f : Fr (fun k => k = b) w1 (w1.setCell ⟨b, i, none⟩ (.int .i64 (sg v))) := (Fr.refl _ w1).set (by rfl) _
  refine ⟨h.T.keep f (fun e => h.n1 e.symm) (fun e => h.n2 e.symm), by rw [List.length_set]; exact h.zlen, h.len, h.m6, fun j hj => ⟨?_, by rw [World.frozen?_setCell]; exact (h.sn j hj).2⟩, h.hb.setCell h.b3 _, by rw [size_set]; exact h.lt, h.b1, h.b2, h.b3, h.n1, h.n2⟩
  rw [getD_set zs i j v (by rw [h.zlen]; exact hi)]
  by_cases e : i = j
  · subst e
    rw [if_pos rfl]
    exact World.cell?_setCell_same _ _ _ (h.sn i (by omega)).1
  · rw [if_neg e]
    exact (World.cell?_setCell_other _ _ _ _ (by simp [Ne.symm e])).trans (h.sn j hj).1
theorem Sta.new {w w1 : World} {bt bs m : Nat} (hm : m ≤ 6) (h1 : w.heap.size ≤ bt) (h2 : w.heap.size ≤ bs) (T : Tal w1 bt bs (List.replicate m 0) false false) (hb : Below w.heap.size w w1) : Sta w (w1.alloc (.cells #[.int .i64 0, .int .i64 0, .int .i64 0, .int .i64 0, .int .i64 0, .int .i64 0] 47)) w1.heap.size bt bs m (List.replicate m 0) (List.replicate m 0) false false := by
  have hz : ∀ j, (List.replicate m (0 : Int)).getD j 0 = 0 := by
    intro j
    rw [List.getD_eq_getElem?_getD, List.getElem?_replicate]
    by_cases hj : j < m <;> simp [hj]
  refine ⟨T.below (below_alloc (Below.refl _ _) _), by simp, by simp, hm, ?_, hb.trans ((below_alloc (Below.refl w1.heap.size w1) _).mono hb.size), ?_, h1, h2, hb.size, ?_, ?_⟩
  · intro j hj
    rw [hz j]
    rcases (show j = 0 ∨ j = 1 ∨ j = 2 ∨ j = 3 ∨ j = 4 ∨ j = 5 by omega) with rfl | rfl | rfl | rfl | rfl | rfl <;> exact ⟨by go_simp; rfl, by go_simp⟩
  · go_simp
  · have := T.it; omega
  · have := T.is_; omega
/-- How many have said yes. -/
def ones : List Int → Nat
  | [] => 0
  | s :: l => (if s = 1 then 1 else 0) + ones l
theorem ones_le : ∀ l, ones l ≤ l.length
  | [] => Nat.le_refl _
  | s :: l => by have := ones_le l; rw [ones, List.length_cons]; split <;> omega
theorem ones_full : ∀ (l : List Int) (i : Int), In3m l → (ones l = l.length ↔ (2 : Int) ∉ l ∧ wt l i = [])
  | [], _, _ => by simp [ones, wt]
  | s :: l, i, h => by
    have ih := ones_full l (i + 1) (fun t ht => h t (by simp [ht]))
    have := ones_le l
    rw [ones, List.length_cons, wt]
    rcases h s (by simp) with rfl | rfl | rfl
    · rw [if_neg (by decide), if_pos rfl]
      constructor
      · intro e; omega
      · intro e; exact absurd e.2 (by simp)
    · rw [if_pos rfl, if_neg (by decide)]
      constructor
      · intro e
        have := ih.1 (by omega)
        exact ⟨fun h' => by rcases List.mem_cons.1 h' with h' | h'; exact absurd h' (by decide); exact this.1 h', this.2⟩
      · intro e
        have := ih.2 ⟨fun h' => e.1 (List.mem_cons_of_mem _ h'), e.2⟩
        omega
    · rw [if_neg (by decide)]
      constructor
      · intro e; omega
      · intro e; exact absurd (List.mem_cons_self) e.1
theorem J.o_is {xs : List Int} {d o c : Bool} (h : J xs d o c) : o = decide (ones xs = xs.length) := by
  have e := h.out
  rw [ro_is xs c h.in3] at e
  have k := ones_full xs 0 h.in3
  by_cases h2 : (2 : Int) ∈ xs
  · rw [if_pos h2, Prod.mk.injEq] at e
    rw [← e.1, eq_comm, decide_eq_false_iff_not]
    exact fun x => (k.1 x).1 h2
  · rw [if_neg h2] at e
    by_cases hw : wt xs 0 = []
    · rw [if_pos hw, Prod.mk.injEq] at e
      rw [← e.1, eq_comm, decide_eq_true_iff]
      exact k.2 ⟨h2, hw⟩
    · rw [if_neg hw, Prod.mk.injEq] at e
      rw [← e.1, eq_comm, decide_eq_false_iff_not]
      exact fun x => hw (k.1 x).2
theorem J.od {xs : List Int} {d o c : Bool} (h : J xs d o c) (hd : d = false) : o = false ∧ c = false := by
  have e := h.out
  rw [ro_is xs c h.in3] at e
  subst hd
  by_cases h2 : (2 : Int) ∈ xs
  · rw [if_pos h2] at e; cases e
  · rw [if_neg h2] at e
    by_cases hw : wt xs 0 = []
    · rw [if_pos hw] at e; cases e
    · rw [if_neg hw, Prod.mk.injEq] at e
      exact ⟨e.1.symm, e.2⟩
theorem sg_pos (v : Int) : (0 < sg v) = (v = 1) := by
  unfold sg
  apply propext
  by_cases h : v = 1
  · simp [h]
  · rw [if_neg h]; split <;> simp [h]
theorem ones_take (l : List Int) (i : Nat) (h : i < l.length) : ones (l.take (i + 1)) = ones (l.take i) + (if l.getD i 0 = 1 then 1 else 0) := by
  induction l generalizing i with
  | nil => simp at h
  | cons s l ih =>
    cases i with
    | zero => simp [ones]
    | succ i =>
      have := ih i (by simpa using h)
      rw [List.take_succ_cons, List.take_succ_cons, ones, ones, this, List.getD_cons_succ]
      omega
theorem len47 : Try.prog.arrayLen 47 = 6 := by kernel_rfl
theorem elem47 : Try.prog.elem 47 = 3 := by kernel_rfl
/-- said[:m], as the walk meets it. -/
theorem slice_said (w : World) (b m : Nat) (h1 : 1 ≤ m) (h6 : m ≤ 6) : (Instr.sliceAt 47 (.pointer (some ⟨b, 0, none⟩)) none (some (.int .i64 (m : Int))) none).run Try.prog w = .ok (.slice (some ⟨b, 0, none⟩) m 6) w := by
  rw [run_sliceAt_array_h w 47 ⟨b, 0, none⟩ (by kernel_rfl) .i64 (m : Int) (by omega) (by rw [len47]; omega), len47, elem47]
  go_simp
end Go.Proofs.Ytnchlddbcomokaa.Ty

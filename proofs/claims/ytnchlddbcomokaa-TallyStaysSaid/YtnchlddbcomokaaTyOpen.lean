/- A slice of calls that came in, as it lies in memory: three cells each. -/
import Derived.Test.YtnchlddbcomokaaTyS
namespace Go.Proofs.Ytnchlddbcomokaa.Ty
open Go.RowKit Go.ChangeShapes Go.WideShapes Go.Deep
theorem three_ {α : Type} (l : List α) (h : l.length = 3) : ∃ a b c, l = [a, b, c] := by
  match l, h with
  | [a, b, c], _ => exact ⟨a, b, c, rfl⟩
theorem add_add_ (ad : Addr) (m j : Nat) : (ad.add m).add j = ad.add (m + j) := by
  unfold Addr.add
  by_cases hm : m = 0 <;> by_cases hj : j = 0 <;> simp [hm, hj, Nat.add_assoc]
theorem call_at {H : Type} {enc : TypeId × Value → H} {w : World} {ad : Addr} {n : Nat} {cs : List Value} {x : DataW H × List MemPlace} (hc : w.cells? 0 ad 3 = some cs) (ht : DataW.trod enc Try.prog w 0 (fun _ => true) true n 38 cs = some x) :
    ∃ c : Bool × Int × Bool, (-9223372036854775808 ≤ c.2.1 ∧ c.2.1 ≤ 9223372036854775807) ∧ w.cell? ad = some (.bool c.1) ∧ w.cell? (ad.add 1) = some (.int .i64 c.2.1) ∧ w.cell? (ad.add 2) = some (.bool c.2.2) := by
  obtain ⟨_, hl, hat⟩ := World.cells?_some hc
  obtain ⟨v0, v1, v2, rfl⟩ := three_ cs hl
  obtain ⟨ys, n', _, _, _, hyl, hf⟩ := DataW.trod_struct Try.underlying38 ht
  obtain ⟨y0, y1, y2, rfl⟩ := three_ ys hyl
  have c3 : Try.prog.cellsOf 3 = 1 := by kernel_rfl
  have c4 : Try.prog.cellsOf 4 = 1 := by kernel_rfl
  have g0 : DataW.trod enc Try.prog w 0 (fun _ => true) true n' 4 (List.take (Try.prog.cellsOf 4) [v0, v1, v2]) = some y0 := hf 0 _ rfl
  have g1 : DataW.trod enc Try.prog w 0 (fun _ => true) true n' 3 (List.take (Try.prog.cellsOf 3) [v1, v2]) = some y1 := hf 1 _ rfl
  have g2 : DataW.trod enc Try.prog w 0 (fun _ => true) true n' 4 (List.take (Try.prog.cellsOf 4) [v2]) = some y2 := hf 2 _ rfl
  rw [c4] at g0 g2
  rw [c3] at g1
  obtain ⟨b, e0, _⟩ := DataW.trod_bool Try.underlying4 g0
  obtain ⟨i, e1, _, wi⟩ := DataW.trod_int Try.underlying3 g1
  obtain ⟨y, e2, _⟩ := DataW.trod_bool Try.underlying4 g2
  simp at e0 e1 e2
  subst e0 e1 e2
  refine ⟨(b, i, y), ?_, ?_, ?_, ?_⟩
  · simp [Lit.wf, IntKind.min, IntKind.max, IntKind.bits, IntKind.signed] at wi
    exact wi
  · have h := hat 0 (by omega)
    have e : ad.add 0 = ad := by simp [Addr.add]
    rw [e] at h
    exact h
  · exact hat 1 (by omega)
  · exact hat 2 (by omega)
theorem calls_of {H : Type} {enc : TypeId × Value → H} {w : World} {a : Option Addr} {len cap : Nat} {d : DataW H} {p : List MemPlace} (h : DataW.Trod enc Try.prog w 0 (fun _ => true) true 32 (.slice a len cap) d p) : ∃ cs, CallsAt w a len cap cs := by
  obtain ⟨fuel, hf⟩ := h
  rcases open_slice Try.underlying32 hf with ⟨hcs, _⟩ | ⟨ad, l, c, m, n, D, Pl, hcs, _, hl, hm, hmm, _, hi⟩
  · simp [Value.cells] at hcs
    obtain ⟨rfl, rfl, rfl⟩ := hcs
    exact ⟨[], rfl, Nat.le_refl _, Nat.zero_le _, fun _ h => (by cases h), fun h => (by cases h)⟩
  · simp [Value.cells] at hcs
    obtain ⟨rfl, rfl, rfl⟩ := hcs
    have c38 : Try.prog.cellsOf 38 = 3 := by kernel_rfl
    have hml : len ≤ m := by rw [hmm]; split <;> omega
    have ex : ∀ i, ∃ c : Bool × Int × Bool, i < len → (-9223372036854775808 ≤ c.2.1 ∧ c.2.1 ≤ 9223372036854775807) ∧ w.cell? (ad.add (i * 3)) = some (.bool c.1) ∧ w.cell? (ad.add (i * 3 + 1)) = some (.int .i64 c.2.1) ∧ w.cell? (ad.add (i * 3 + 2)) = some (.bool c.2.2) := by
      intro i
      by_cases hil : i < len
      · obtain ⟨cs', hc, ht⟩ := hi i (by omega)
        rw [c38] at hc
        obtain ⟨c, h1, h2, h3, h4⟩ := call_at hc ht
        rw [add_add_] at h3 h4
        exact ⟨c, fun _ => ⟨h1, h2, h3, h4⟩⟩
      · exact ⟨(false, 0, false), fun h => absurd h hil⟩
    refine ⟨(List.range len).map fun i => Classical.choose (ex i), by simp, hl, hm, ?_, fun _ => ⟨ad, rfl, ?_⟩⟩
    · intro c hc
      obtain ⟨i, hi', rfl⟩ := List.mem_map.1 hc
      exact (Classical.choose_spec (ex i) (List.mem_range.1 hi')).1
    · intro i hil
      have hil' : i < len := by simpa using hil
      have e : ((List.range len).map fun i => Classical.choose (ex i))[i] = Classical.choose (ex i) := by simp
      rw [e]
      exact (Classical.choose_spec (ex i) hil').2
end Go.Proofs.Ytnchlddbcomokaa.Ty

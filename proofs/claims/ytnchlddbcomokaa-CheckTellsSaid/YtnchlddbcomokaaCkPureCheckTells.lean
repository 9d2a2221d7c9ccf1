/- The plain statement of CheckTells: one byte changed moves the sum by 3^at times less than 256 either way, two exchanged by 3^at times twice that: never a multiple of 673. -/
import Derived.Test.YtnchlddbcomokaaCkLawCheckTells
import Derived.Test.YtnchlddbcomokaaCkSum
namespace Go.Proofs.Ytnchlddbcomokaa.PCk
open Go.RowKit Go.Proofs.YtnchlddbcomokaaW.PrintWords Go.Proofs.Ytnchlddbcomokaa.Ck

theorem split_at (l : List Int) (i : Nat) (h : i < l.length) : l = l.take i ++ l[i] :: l.drop (i + 1) := by
  rw [List.getElem_cons_drop, List.take_append_drop]
theorem S_set (l : List Int) (i : Nat) (h : i < l.length) (v : Int) : S (l.set i v) = S l + 3 ^ i * (v - l[i]) := by
  have hl : (l.take i).length = i := by rw [List.length_take]; omega
  have e : l.set i v = l.take i ++ v :: l.drop (i + 1) := by
    rw [List.set_eq_take_append_cons_drop, if_pos h]
  rw [e, S_append, hl, S]
  conv => rhs; lhs; rw [split_at l i h, S_append, hl, S]
  grind
theorem told (a d : Int) (i : Nat) (h0 : -672 ≤ d) (h1 : d ≤ 672) : (a + 3 ^ i * d) % 673 = a % 673 ↔ d = 0 := by
  constructor
  · intro h
    have : (3 ^ i * d) % 673 = 0 := by omega
    have := pow_dvd d i this
    omega
  · rintro rfl; simp
theorem sw (l : List Int) (i : Nat) (h : i + 1 < l.length) : S ((l.set i l[i + 1]).set (i + 1) l[i]) = S l + 3 ^ i * (2 * (l[i] - l[i + 1])) := by
  rw [S_set _ _ (by simpa using h), S_set _ _ (by omega)]
  rw [List.getElem_set_ne (by omega)]
  rw [Int.pow_succ]
  grind
theorem xor_nat (a x : Nat) (ha : a < 256) (hx : x < 256) : Go.bits .xor .u8 (a : Int) (x : Int) = ((a ^^^ x : Nat) : Int) := by
  have hb : a ^^^ x < 2 ^ 8 := Nat.xor_lt_two_pow (by omega) (by omega)
  have h1 : (BitVec.ofInt 8 (a : Int)).toNat = a := by
    rw [BitVec.ofInt_natCast, BitVec.toNat_ofNat]; exact Nat.mod_eq_of_lt (by omega)
  have h2 : (BitVec.ofInt 8 (x : Int)).toNat = x := by
    rw [BitVec.ofInt_natCast, BitVec.toNat_ofNat]; exact Nat.mod_eq_of_lt (by omega)
  show IntKind.u8.wrap ((BitVec.ofInt 8 (a : Int) ^^^ BitVec.ofInt 8 (x : Int)).toNat : Int) = _
  rw [BitVec.toNat_xor, h1, h2]
  have e : ∀ n : Int, IntKind.u8.wrap n = n % 256 := fun n => by simp [IntKind.wrap, IntKind.bits, IntKind.signed]
  rw [e]
  omega
theorem bits_xor (a x : Int) (ha0 : 0 ≤ a) (ha : a ≤ 255) (hx0 : 0 ≤ x) (hx : x ≤ 255) : (0 ≤ Go.bits .xor .u8 a x ∧ Go.bits .xor .u8 a x ≤ 255) ∧ (Go.bits .xor .u8 a x = a ↔ x = 0) := by
  obtain ⟨n, rfl⟩ := Int.eq_ofNat_of_zero_le ha0
  obtain ⟨m, rfl⟩ := Int.eq_ofNat_of_zero_le hx0
  rw [xor_nat n m (by omega) (by omega)]
  have hb : n ^^^ m < 2 ^ 8 := Nat.xor_lt_two_pow (by omega) (by omega)
  refine ⟨⟨by omega, by omega⟩, ?_, ?_⟩
  · intro h
    have h' : n ^^^ m = n := by omega
    have h2 : n ^^^ (n ^^^ m) = n ^^^ n := by rw [h']
    rw [← Nat.xor_assoc, Nat.xor_self, Nat.zero_xor] at h2
    omega
  · intro h
    have h' : m = 0 := by omega
    subst h'
    rw [Nat.xor_zero]
theorem place (a n : Int) (h0 : 1 ≤ n) (h1 : n ≤ 1000) : (wrap64 (Int.tmod (IntKind.u64.wrap a) (IntKind.u64.wrap (wrap64 n)))) = (a % 18446744073709551616) % n := by
  have e : ∀ m : Int, IntKind.u64.wrap m = m % 18446744073709551616 := fun m => by simp [IntKind.wrap, IntKind.bits, IntKind.signed]
  rw [e, e, wrap_id (n := n) (by omega) (by omega), Int.emod_eq_of_lt (a := n) (by omega) (by omega), Int.tmod_eq_emod_of_nonneg (by omega)]
  have h2 := Int.emod_nonneg (a % 18446744073709551616) (b := n) (by omega)
  have h3 := Int.emod_lt_of_pos (a % 18446744073709551616) (b := n) (by omega)
  exact wrap_id (by omega) (by omega)
theorem wf_u8 {x : Int} (h : (Lit.int .u8 x).wf = true) : 0 ≤ x ∧ x ≤ 255 := by
  simp [Lit.wf, IntKind.min, IntKind.max, IntKind.bits, IntKind.signed] at h
  omega
theorem rd_at (l : List Int) (i : Nat) (h : i < l.length) : rd l (i : Int) = l[i] := by
  unfold rd; rw [Int.toNat_natCast, List.getD_eq_getElem?_getD, List.getElem?_eq_getElem h]; rfl
theorem told_bool (p : Prop) (q : Prop) [Decidable p] [Decidable q] (h : p ↔ q) : (decide p == decide q) = true := by
  simp [h]
theorem beq_decide (a b : List UInt8) : (a == b) = decide (a = b) := by
  by_cases h : a = b <;> simp [h]
theorem Tells_j0 (l : List Int) (a x : Int) (b : Bool) (hb : b = false → 2 ≤ l.length ∧ l.length ≤ 1000) (hl : ∀ y ∈ l, 0 ≤ y ∧ y ≤ 255) (hx0 : 0 ≤ x) (hx : x ≤ 255) (k : Nat) (hk : l.length + 1004 < k) :
    wharfingerlaw2_CheckTells.j0 (k + 1) l a x b = some true := by
  rw [wharfingerlaw2_CheckTells.j0, awakeIs _ (by omega)]
  cases b with
  | true => rfl
  | false =>
    obtain ⟨h2, h1000⟩ := hb rfl
    have hn : (1 : Int) ≤ (l.length : Int) - 1 := by omega
    have hn2 : (l.length : Int) - 1 ≤ 1000 := by omega
    rw [if_neg (by simp), place a _ hn hn2]
    have e : ∀ m : Int, IntKind.u64.wrap m = m % 18446744073709551616 := fun m => by simp [IntKind.wrap, IntKind.bits, IntKind.signed]
    rw [if_neg (by rw [e, wrap_id (by omega) (by omega)]; omega)]
    have hm0 := Int.emod_nonneg (a % 18446744073709551616) (b := (l.length : Int) - 1) (by omega)
    have hm1 := Int.emod_lt_of_pos (a % 18446744073709551616) (b := (l.length : Int) - 1) (by omega)
    obtain ⟨i, hi⟩ := Int.eq_ofNat_of_zero_le hm0
    rw [hi] at hm1 ⊢
    have hil : i + 1 < l.length := by omega
    have hw : wrap64 ((i : Int) + 1) = ((i + 1 : Nat) : Int) := by rw [wrap_id (by omega) (by omega)]; omega
    rw [hw]
    simp only [Option.bind_some, List.nil_append, List.length_nil, Nat.zero_add]
    have hlt : l.length < 140737488355328 := by omega
    rw [if_pos hlt, if_pos hlt, if_pos (by omega), if_pos (by omega), if_pos (by omega), if_pos (by omega), if_pos (by omega)]
    rw [rd_at l i (by omega), rd_at l (i + 1) hil, Int.toNat_natCast, Int.toNat_natCast]
    have hli := hl l[i] (List.getElem_mem _)
    have hlj := hl l[i + 1] (List.getElem_mem _)
    obtain ⟨hxr, hxe⟩ := bits_xor l[i] x hli.1 hli.2 hx0 hx
    generalize Go.bits .xor .u8 l[i] x = c at *
    have hA : ∀ y ∈ l.set i c, 0 ≤ y ∧ y ≤ 255 := by
      intro y hy
      rcases List.mem_or_eq_of_mem_set hy with h | h
      · exact hl y h
      · omega
    have hB : ∀ y ∈ (l.set i l[i + 1]).set (i + 1) l[i], 0 ≤ y ∧ y ≤ 255 := by
      intro y hy
      rcases List.mem_or_eq_of_mem_set hy with h | h
      · rcases List.mem_or_eq_of_mem_set h with h | h
        · exact hl y h
        · omega
      · omega
    rw [lettersIs _ (by rw [strOfNums_size]; omega) _ (by rw [strOfNums_size]; omega), Option.bind_some]
    rw [lettersIs _ (by rw [strOfNums_size, List.length_set]; omega) _ (by rw [strOfNums_size, List.length_set]; omega), Option.bind_some]
    rw [lettersIs _ (by rw [strOfNums_size, List.length_set, List.length_set]; omega) _ (by rw [strOfNums_size, List.length_set, List.length_set]; omega), Option.bind_some]
    rw [bytes_nums l hl, bytes_nums _ hA, bytes_nums _ hB]
    have t1 : (Lt (l.set i c)).toList = (Lt l).toList ↔ x = 0 := by
      rw [toList_iff, Lt_iff, S_set l i (by omega), told _ _ _ (by omega) (by omega), ← hxe]; omega
    have t2 : (Lt ((l.set i l[i + 1]).set (i + 1) l[i])).toList = (Lt l).toList ↔ l[i] = l[i + 1] := by
      rw [toList_iff, Lt_iff, sw l i hil, told _ _ _ (by omega) (by omega)]; omega
    have b1 : (((Lt (l.set i c)).toList == (Lt l).toList) == (x == 0)) = true := by
      rw [beq_decide]; exact told_bool _ _ t1
    have b2 : (((Lt ((l.set i l[i + 1]).set (i + 1) l[i])).toList == (Lt l).toList) == (l[i] == l[i + 1])) = true := by
      rw [beq_decide]; exact told_bool _ _ t2
    rw [if_pos b1, if_pos b2, if_pos (by omega), if_pos (by omega)]
theorem CheckTells_pure : wharfingerlaw2_CheckTells.Pure := by
  intro l a x h1 h2 h3 h4 h5
  refine ⟨l.length + 1005 + 1, ?_⟩
  have hl : ∀ y ∈ l, 0 ≤ y ∧ y ≤ 255 := fun y hy => wf_u8 (h3 y hy)
  have hx := wf_u8 h5
  unfold wharfingerlaw2_CheckTells.f
  by_cases h : (l.length : Int) < 2
  · rw [if_pos h]
    exact Tells_j0 l a x true (fun h => by cases h) hl hx.1 hx.2 _ (by omega)
  · rw [if_neg h]
    exact Tells_j0 l a x _ (fun h => by have := of_decide_eq_false h; omega) hl hx.1 hx.2 _ (by omega)
end Go.Proofs.Ytnchlddbcomokaa.PCk

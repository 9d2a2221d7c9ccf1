/- The plain arithmetic of the two letters: what the loop over the bytes comes to, and what one change of a text does to it. -/
import Derived.Test.YtnchlddbcomokaaWWords
namespace Go.Proofs.Ytnchlddbcomokaa.Ck
open Go.RowKit Go.Proofs.YtnchlddbcomokaaW.PrintWords

def S : List Int → Int
  | [] => 0
  | b :: l => b + 3 * S l

def two (m : Int) : ByteArray := strOfNums [97 + m / 26, 97 + m % 26]
def Lt (l : List Int) : ByteArray := two (S l % 673)

theorem toList_data (s : ByteArray) : s.toList = s.data.toList := by
  obtain ⟨⟨l⟩⟩ := s
  exact ByteArray.toList_mk l
theorem toList_inj {a b : ByteArray} (h : a.toList = b.toList) : a = b := by
  rw [toList_data, toList_data] at h
  obtain ⟨⟨l⟩⟩ := a
  obtain ⟨⟨m⟩⟩ := b
  simpa using h
theorem toList_iff {a b : ByteArray} : a.toList = b.toList ↔ a = b := ⟨toList_inj, fun h => by rw [h]⟩

theorem bytes_drop (s : ByteArray) (i : Nat) (h : i < s.size) : (bytesOf s).drop i = bt s i :: (bytesOf s).drop (i + 1) := by
  have hl : i < (bytesOf s).length := by rw [bytesOf_length]; exact h
  rw [List.drop_eq_getElem_cons hl]
  congr 1
  have := rd_bytesOf s (i : Int)
  rw [← this]
  unfold rd
  rw [Int.toNat_natCast, List.getD_eq_getElem?_getD, List.getElem?_eq_getElem hl]
  rfl

theorem step_mod (n w b s : Int) : ((n + b * w) % 673 + (w * 3 % 673) * s) % 673 = (n + w * (b + 3 * s)) % 673 := by
  have h1 := Int.mul_ediv_add_emod (n + b * w) 673
  have h2 := Int.mul_ediv_add_emod (w * 3) 673
  generalize (n + b * w) % 673 = p at *
  generalize (w * 3) % 673 = q at *
  generalize (n + b * w) / 673 = p' at *
  generalize (w * 3) / 673 = q' at *
  have e : n + w * (b + 3 * s) = (p + q * s) + 673 * (p' + q' * s) := by grind
  rw [e, Int.add_mul_emod_self_left]

def body (g : Nat → ByteArray → Int → Int → Int → Int → Option ByteArray) (k : Nat) (x0 : ByteArray) (x3 x4 x7 x8 : Int) : Option ByteArray :=
  if x8 < x7 then (if 0 ≤ x8 then (if x8 < (x0.size : Int) then (g k x0 (Int.tmod (wrap64 (x3 + (wrap64 ((wrap64 (bt x0 x8)) * x4)))) 673) (Int.tmod (wrap64 (x4 * 3)) 673) x7 (wrap64 (x8 + 1))) else (none)) else (none)) else (some (strOfNums (([(wrap64 (97 + (wrap64 (Int.tdiv x3 26)))) % 256, (wrap64 (97 + (Int.tmod x3 26))) % 256] : List Int))))

theorem wrap_id {n : Int} (h : -9223372036854775808 ≤ n) (h' : n ≤ 9223372036854775807) : wrap64 n = n := by unfold wrap64; omega

theorem end_two (n : Int) (h0 : 0 ≤ n) (h1 : n < 673) : strOfNums (([(wrap64 (97 + (wrap64 (Int.tdiv n 26)))) % 256, (wrap64 (97 + (Int.tmod n 26))) % 256] : List Int)) = two n := by
  unfold two
  rw [Int.tdiv_eq_ediv_of_nonneg h0, Int.tmod_eq_emod_of_nonneg h0, wrap_id (n := n / 26) (by omega) (by omega), wrap_id (by omega) (by omega), wrap_id (by omega) (by omega)]
  congr 2
  · omega
  · congr 1; omega

theorem loop (g : Nat → ByteArray → Int → Int → Int → Int → Option ByteArray) (hg : ∀ k x0 x3 x4 x7 x8, g (k + 1) x0 x3 x4 x7 x8 = body g k x0 x3 x4 x7 x8)
    (s : ByteArray) (hs : s.size ≤ 281474976710656) (d : Nat) : ∀ (k : Nat) (i n w : Int), 0 ≤ i → i ≤ s.size → (s.size : Int) - i = d → d < k → 0 ≤ n → n < 673 → 0 ≤ w → w < 673 →
      g k s n w s.size i = some (two ((n + w * S ((bytesOf s).drop i.toNat)) % 673)) := by
  induction d with
  | zero =>
    intro k i n w h0 h1 hd hk hn0 hn1 hw0 hw1
    obtain ⟨k, rfl⟩ : ∃ m, k = m + 1 := ⟨k - 1, by omega⟩
    rw [hg, body, if_neg (by omega), end_two n hn0 hn1, List.drop_eq_nil_of_le (by rw [bytesOf_length]; omega)]
    have e : (n + w * S []) % 673 = n := by simp only [S]; omega
    rw [e]
  | succ d ih =>
    intro k i n w h0 h1 hd hk hn0 hn1 hw0 hw1
    obtain ⟨k, rfl⟩ : ∃ m, k = m + 1 := ⟨k - 1, by omega⟩
    obtain ⟨j, rfl⟩ := Int.eq_ofNat_of_zero_le h0
    have hb := bt_range s (j : Int)
    have hbw : 0 ≤ bt s j * w := Int.mul_nonneg hb.1 hw0
    have hbw' : bt s j * w ≤ 255 * 673 := Int.mul_le_mul hb.2 (by omega) hw0 (by omega)
    rw [hg, body, if_pos (by omega), if_pos (by omega), if_pos (by omega)]
    rw [wrap_id (n := bt s j) (by omega) (by omega), wrap_id (n := bt s j * w) (by omega) (by omega), wrap_id (n := n + bt s j * w) (by omega) (by omega), wrap_id (n := w * 3) (by omega) (by omega), wrap_id (n := (j : Int) + 1) (by omega) (by omega)]
    rw [Int.tmod_eq_emod_of_nonneg (by omega), Int.tmod_eq_emod_of_nonneg (by omega)]
    rw [ih k (j + 1) _ _ (by omega) (by omega) (by omega) (by omega) (by omega) (by omega) (by omega) (by omega)]
    rw [show ((j : Int) + 1).toNat = j + 1 from by omega, Int.toNat_natCast, bytes_drop s j (by omega)]
    simp only [S]
    rw [step_mod]

theorem letters (g : Nat → ByteArray → Int → Int → Int → Int → Option ByteArray) (hg : ∀ k x0 x3 x4 x7 x8, g (k + 1) x0 x3 x4 x7 x8 = body g k x0 x3 x4 x7 x8)
    (s : ByteArray) (hs : s.size ≤ 281474976710656) (k : Nat) (hk : s.size < k) : g k s 0 1 s.size 0 = some (Lt (bytesOf s)) := by
  rw [loop g hg s hs s.size k 0 0 1 (by omega) (by omega) (by omega) hk (by omega) (by omega) (by omega) (by omega)]
  simp [Lt]

theorem S_append (a b : List Int) : S (a ++ b) = S a + 3 ^ a.length * S b := by
  induction a with
  | nil => simp [S]
  | cons x a ih => rw [List.cons_append, S, S, ih, List.length_cons, Int.pow_succ]; grind

theorem two_size (m : Int) : (two m).size = 2 := by simp [two, strOfNums_size]
theorem two_data (m : Int) : (two m).data.toList = [UInt8.ofNat (97 + m / 26).toNat, UInt8.ofNat (97 + m % 26).toNat] := by simp [two, strOfNums_data]
theorem two_bytes (m : Int) (h0 : 0 ≤ m) (h1 : m < 673) : bytesOf (two m) = [97 + m / 26, 97 + m % 26] := by
  unfold bytesOf
  rw [two_data]
  simp
  constructor
  · omega
  · omega
theorem two_bt0 (m : Int) (h0 : 0 ≤ m) (h1 : m < 673) : bt (two m) 0 = 97 + m / 26 := by
  rw [← rd_bytesOf, two_bytes m h0 h1]; rfl
theorem two_bt1 (m : Int) (h0 : 0 ≤ m) (h1 : m < 673) : bt (two m) 1 = 97 + m % 26 := by
  rw [← rd_bytesOf, two_bytes m h0 h1]; rfl
theorem two_inj {m n : Int} (h0 : 0 ≤ m) (h1 : m < 673) (h2 : 0 ≤ n) (h3 : n < 673) (h : two m = two n) : m = n := by
  have a := two_bt0 m h0 h1
  have b := two_bt1 m h0 h1
  rw [h, two_bt0 n h2 h3] at a
  rw [h, two_bt1 n h2 h3] at b
  omega
theorem Lt_size (l : List Int) : (Lt l).size = 2 := two_size _
theorem Lt_iff (a b : List Int) : Lt a = Lt b ↔ S a % 673 = S b % 673 :=
  ⟨fun h => two_inj (by omega) (by omega) (by omega) (by omega) h, fun h => by unfold Lt; rw [h]⟩

theorem bytes_append (a b : ByteArray) : bytesOf (a ++ b) = bytesOf a ++ bytesOf b := by
  simp [bytesOf]
theorem bytes_nums (l : List Int) (h : ∀ x ∈ l, 0 ≤ x ∧ x ≤ 255) : bytesOf (strOfNums l) = l := by
  unfold bytesOf
  rw [strOfNums_data, List.map_map]
  conv => rhs; rw [← List.map_id l]
  apply List.map_congr_left
  intro x hx
  have := h x hx
  simp
  omega
theorem bytes_inj {a b : ByteArray} (h : bytesOf a = bytesOf b) : a = b := by
  obtain ⟨⟨l⟩⟩ := a
  obtain ⟨⟨m⟩⟩ := b
  simp only [bytesOf] at h
  have : l = m := List.map_inj_right (fun x y hxy => by
    have : x.toNat = y.toNat := by omega
    exact UInt8.toNat_inj.1 this) |>.1 h
  rw [this]
theorem bytes_range (s : ByteArray) : ∀ x ∈ bytesOf s, 0 ≤ x ∧ x ≤ 255 := by
  intro x hx
  unfold bytesOf at hx
  obtain ⟨b, _, rfl⟩ := List.mem_map.1 hx
  have := b.toNat_lt
  omega

/-- What 3 times a number is not, the number was not. -/
theorem pow_dvd (d : Int) (n : Nat) (h : (3 ^ n * d) % 673 = 0) : d % 673 = 0 := by
  induction n with
  | zero => simpa using h
  | succ n ih =>
    apply ih
    rw [Int.pow_succ, Int.mul_assoc, Int.mul_left_comm] at h
    omega

end Go.Proofs.Ytnchlddbcomokaa.Ck

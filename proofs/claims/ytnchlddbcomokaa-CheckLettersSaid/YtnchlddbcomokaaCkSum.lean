/- What the functions of the check answer, over the plain arithmetic of Ck. -/
import Derived.Test.YtnchlddbcomokaaCkBase
import Derived.Test.YtnchlddbcomokaaCk
namespace Go.Proofs.Ytnchlddbcomokaa.PCk
open Go.RowKit Go.Proofs.YtnchlddbcomokaaW.PrintWords Go.Proofs.Ytnchlddbcomokaa.Ck

theorem lettersIs (s : ByteArray) (hs : s.size ≤ 281474976710656) (k : Nat) (hk : s.size < k) : check_Letters.f k s = some (Lt (bytesOf s)) :=
  letters check_Letters.l0 (fun _ _ _ _ _ _ => rfl) s hs k hk
theorem lettersRefIs (s : ByteArray) (hs : s.size ≤ 281474976710656) (k : Nat) (hk : s.size < k) : wharfingerref1_Letters.f k s = some (Lt (bytesOf s)) :=
  letters wharfingerref1_Letters.l0 (fun _ _ _ _ _ _ => rfl) s hs k hk

/-- A text with its letters. -/
def Sg (s : ByteArray) : ByteArray := (s ++ (⟨#[124]⟩ : ByteArray)) ++ Lt (bytesOf s)
theorem bar_size (s : ByteArray) : (s ++ (⟨#[124]⟩ : ByteArray)).size = s.size + 1 := ByteArray.size_append ..
theorem Sg_size (s : ByteArray) : (Sg s).size = s.size + 3 := by
  unfold Sg; rw [ByteArray.size_append, bar_size, Lt_size]
theorem Sg_bytes (s : ByteArray) : bytesOf (Sg s) = bytesOf s ++ 124 :: bytesOf (Lt (bytesOf s)) := by
  unfold Sg; rw [bytes_append, bytes_append, List.append_assoc]; rfl

theorem signIs (s : ByteArray) (hs : s.size ≤ 281474976710656) (k : Nat) (hk : s.size < k) : check_Sign.f k s = some (Sg s) := by
  unfold check_Sign.f
  rw [if_pos (by omega), lettersIs s hs k hk, Option.bind_some, if_pos (by rw [bar_size, Lt_size]; omega)]; rfl
theorem signRefIs (s : ByteArray) (hs : s.size ≤ 281474976710656) (k : Nat) (hk : s.size < k) : wharfingerref1_Sign.f k s = some (Sg s) := by
  unfold wharfingerref1_Sign.f
  rw [if_pos (by omega), lettersRefIs s hs k hk, Option.bind_some, if_pos (by rw [bar_size, Lt_size]; omega)]; rfl

/-- What is read. -/
def Rdd (s : ByteArray) : ByteArray × Bool :=
  if s.size < 3 then (⟨#[]⟩, false) else if (Sg (s.extract 0 (s.size - 3))) = s then (s.extract 0 (s.size - 3), true) else (⟨#[]⟩, false)

theorem readIs (s : ByteArray) (hs : s.size ≤ 281474976710656) (k : Nat) (hk : s.size < k) : check_Read.f k s = some (Rdd s) := by
  unfold check_Read.f Rdd
  rw [wrap_id (by omega) (by omega)]
  by_cases h : s.size < 3
  · rw [if_pos (by omega), if_pos h]
  · rw [if_neg (by omega), if_neg h, if_pos (by omega), if_pos (by omega)]
    rw [show ((s.size : Int) - 3).toNat = s.size - 3 from by omega]
    have hsz : (s.extract 0 (s.size - 3)).size = s.size - 3 := by rw [ByteArray.size_extract]; omega
    rw [signIs _ (by omega) k (by omega)]
    simp only [Option.bind_some, toList_iff]
    split <;> rfl
theorem readRefIs (s : ByteArray) (hs : s.size ≤ 281474976710656) (k : Nat) (hk : s.size < k) : wharfingerref1_Read.f k s = some (Rdd s) := by
  unfold wharfingerref1_Read.f Rdd
  rw [wrap_id (by omega) (by omega)]
  by_cases h : s.size < 3
  · rw [if_pos (by omega), if_pos h]
  · rw [if_neg (by omega), if_neg h, if_pos (by omega), if_pos (by omega)]
    rw [show ((s.size : Int) - 3).toNat = s.size - 3 from by omega]
    have hsz : (s.extract 0 (s.size - 3)).size = s.size - 3 := by rw [ByteArray.size_extract]; omega
    rw [signRefIs _ (by omega) k (by omega)]
    simp only [Option.bind_some, toList_iff]
    split <;> rfl

theorem Rdd_Sg (s : ByteArray) : Rdd (Sg s) = (s, true) := by
  have e : (Sg s).extract 0 ((Sg s).size - 3) = s := by
    apply ByteArray.ext
    rw [Sg_size, ← Array.toList_inj]
    unfold Sg
    simp
  unfold Rdd
  rw [e, if_neg (by rw [Sg_size]; omega), if_pos rfl]
theorem Rdd_true (s : ByteArray) (h : (Rdd s).2 = true) : Sg (Rdd s).1 = s := by
  unfold Rdd at *
  split at h
  · cases h
  · split at h
    · rename_i h1 h2
      rw [if_neg h1, if_pos h2]; exact h2
    · cases h

theorem awakeIs (k : Nat) (hk : 2 < k) : wharfingerlaw2_awake.f k = some true := by
  unfold wharfingerlaw2_awake.f
  rw [lettersIs ⟨#[97, 98]⟩ (by decide) k (by show 2 < k; omega), Option.bind_some]
  have e : Lt (bytesOf (⟨#[97, 98]⟩ : ByteArray)) = ⟨#[112, 98]⟩ := by decide +kernel
  rw [e, toList_data, if_pos rfl, signIs ⟨#[]⟩ (by decide) k (by show 0 < k; omega), Option.bind_some]
  have e2 : Sg (⟨#[]⟩ : ByteArray) = ⟨#[124, 97, 97]⟩ := by decide +kernel
  rw [e2, toList_data]; rfl
end Go.Proofs.Ytnchlddbcomokaa.PCk

/- The plain statement of CheckShort. -/
import Derived.Test.YtnchlddbcomokaaCkLawCheckShort
import Derived.Test.YtnchlddbcomokaaCkSum
namespace Go.Proofs.Ytnchlddbcomokaa.PCk
open Go.RowKit Go.Proofs.YtnchlddbcomokaaW.PrintWords Go.Proofs.Ytnchlddbcomokaa.Ck
theorem Sg_at1 (s : ByteArray) : (bytesOf (Sg s))[s.size]? = some 124 := by
  rw [Sg_bytes, List.getElem?_append_right (by rw [bytesOf_length]; omega), bytesOf_length, Nat.sub_self]; rfl
theorem Sg_at2 (s : ByteArray) : ∃ x, (bytesOf (Sg s))[s.size + 1]? = some x ∧ x ≠ 124 := by
  refine ⟨97 + (S (bytesOf s) % 673) / 26, ?_, by omega⟩
  rw [Sg_bytes, List.getElem?_append_right (by rw [bytesOf_length]; omega), bytesOf_length, show s.size + 1 - s.size = 1 from by omega]
  unfold Lt
  rw [two_bytes _ (by omega) (by omega)]; rfl
theorem bytes_take (s : ByteArray) (n : Nat) : bytesOf (s.extract 0 n) = (bytesOf s).take n := by
  simp [bytesOf, List.map_take]
theorem cut_not (s : ByteArray) : (Rdd ((Sg s).extract 0 (s.size + 2))).2 = false := by
  have hsz : ((Sg s).extract 0 (s.size + 2)).size = s.size + 2 := by rw [ByteArray.size_extract, Sg_size]; omega
  rcases hb : (Rdd ((Sg s).extract 0 (s.size + 2))).2 with _ | _
  · rfl
  · exfalso
    have ht := Rdd_true _ hb
    generalize hu : (Rdd ((Sg s).extract 0 (s.size + 2))).1 = u at ht
    have h1 : u.size + 3 = s.size + 2 := by rw [← Sg_size, ht, hsz]
    obtain ⟨x, hx, hne⟩ := Sg_at2 u
    rw [ht, bytes_take, List.getElem?_take, if_pos (by omega), show u.size + 1 = s.size from by omega, Sg_at1] at hx
    exact hne (Option.some.inj hx).symm
theorem CheckShort_pure : wharfingerlaw2_CheckShort.Pure := by
  intro s a hs ha
  have hg := Sg_size s
  refine ⟨s.size + 4, ?_⟩
  unfold wharfingerlaw2_CheckShort.f
  rw [awakeIs _ (by omega)]
  by_cases h : (s.size : Int) > 500
  · rw [if_pos h]; rfl
  · rw [if_neg h, signIs s (by omega) _ (by omega), Option.bind_some, if_pos (by rw [hg, wrap_id (by omega) (by omega)]; omega)]
    rw [wrap_id (n := ((Sg s).size : Int) - 1) (by omega) (by omega), if_pos (by omega), if_pos (by omega)]
    rw [show (((Sg s).size : Int) - 1).toNat = s.size + 2 from by omega]
    rw [readIs _ (by rw [ByteArray.size_extract]; omega) _ (by rw [ByteArray.size_extract]; omega), Option.bind_some]
    rw [readIs ⟨#[124, 97]⟩ (by decide) _ (by show 2 < _; omega), Option.bind_some, readIs ⟨#[]⟩ (by decide) _ (by show 0 < _; omega), Option.bind_some]
    have e1 : (Rdd ⟨#[124, 97]⟩).2 = false := by decide +kernel
    have e2 : (Rdd ⟨#[]⟩).2 = false := by decide +kernel
    rw [cut_not, e1, e2]; rfl
end Go.Proofs.Ytnchlddbcomokaa.PCk

/- The plain statement of CheckBack. -/
import Derived.Test.YtnchlddbcomokaaCkLawCheckBack
import Derived.Test.YtnchlddbcomokaaCkSum
namespace Go.Proofs.Ytnchlddbcomokaa.PCk
open Go.RowKit Go.Proofs.YtnchlddbcomokaaW.PrintWords Go.Proofs.Ytnchlddbcomokaa.Ck
theorem Rdd_size (t : ByteArray) : (Rdd t).1.size ≤ t.size := by
  unfold Rdd
  split
  · exact Nat.zero_le _
  · split
    · simp only []; rw [ByteArray.size_extract]; omega
    · exact Nat.zero_le _
theorem CheckBack_j0 (s t : ByteArray) (b : Bool) (hs : s.size ≤ 140737488351232) (ht : t.size ≤ 140737488351232) (k : Nat) (hk : s.size + t.size + 4 < k) : wharfingerlaw2_CheckBack.j0 (k + 1) s t b = some true := by
  rw [wharfingerlaw2_CheckBack.j0, awakeIs _ (by omega)]
  have hg := Sg_size s
  have hr := Rdd_size t
  cases b with
  | true => rfl
  | false =>
    rw [if_neg (by simp), signIs s (by omega) _ (by omega), Option.bind_some, readIs _ (by omega) _ (by omega), Option.bind_some, readIs t (by omega) _ (by omega), Option.bind_some, Rdd_Sg]
    rw [if_pos rfl, if_pos rfl, if_pos (by rw [hg, wrap_id (by omega) (by omega)]; omega)]
    by_cases h : (Rdd t).2 = true
    · rw [if_pos h, signIs _ (by omega) _ (by omega), Option.bind_some, Rdd_true t h, if_pos rfl]; rfl
    · rw [if_neg h]; rfl
theorem CheckBack_pure : wharfingerlaw2_CheckBack.Pure := by
  intro s t hs ht
  refine ⟨s.size + t.size + 5 + 1, ?_⟩
  unfold wharfingerlaw2_CheckBack.f
  rw [CheckBack_j0 s t _ hs ht _ (by omega), CheckBack_j0 s t _ hs ht _ (by omega)]
  split <;> rfl
end Go.Proofs.Ytnchlddbcomokaa.PCk

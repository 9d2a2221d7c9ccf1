/- The plain statement of CheckShift. -/
import Derived.Test.YtnchlddbcomokaaCkLawCheckShift
import Derived.Test.YtnchlddbcomokaaCkSum
namespace Go.Proofs.Ytnchlddbcomokaa.PCk
open Go.RowKit Go.Proofs.YtnchlddbcomokaaW.PrintWords Go.Proofs.Ytnchlddbcomokaa.Ck
theorem num (m : Int) (h0 : 0 ≤ m) (h1 : m < 673) : 26 * ((97 + m / 26 - 97) % 256) + (97 + m % 26 - 97) % 256 = m := by omega
theorem CheckShift_pure : wharfingerlaw2_CheckShift.Pure := by
  intro s hs
  refine ⟨s.size + 3, ?_⟩
  unfold wharfingerlaw2_CheckShift.f
  rw [awakeIs _ (by omega)]
  by_cases h : (s.size : Int) > 500
  · rw [if_pos h]; rfl
  · have hz : ((⟨#[0]⟩ : ByteArray) ++ s).size = 1 + s.size := ByteArray.size_append ..
    have hb : bytesOf ((⟨#[0]⟩ : ByteArray) ++ s) = 0 :: bytesOf s := by rw [bytes_append]; rfl
    rw [if_neg h, lettersIs s (by omega) _ (by omega), Option.bind_some, if_pos (by omega), lettersIs _ (by omega) _ (by omega), Option.bind_some, hb]
    rw [Lt_size, Lt_size, if_pos (by decide), if_pos (by decide), if_pos (by decide), if_pos (by decide), if_pos (by decide), if_pos (by decide)]
    unfold Lt
    have e : S (0 :: bytesOf s) = 3 * S (bytesOf s) := by simp [S]
    rw [e]
    generalize S (bytesOf s) = n
    rw [two_bt0 _ (by omega) (by omega), two_bt1 _ (by omega) (by omega), two_bt0 _ (by omega) (by omega), two_bt1 _ (by omega) (by omega)]
    rw [num _ (by omega) (by omega), num _ (by omega) (by omega), if_pos (by omega), if_pos (by omega)]; rfl
end Go.Proofs.Ytnchlddbcomokaa.PCk

/- The plain statement of CheckLetters. -/
import Derived.Test.YtnchlddbcomokaaCkLawCheckLetters
import Derived.Test.YtnchlddbcomokaaCkSum
namespace Go.Proofs.Ytnchlddbcomokaa.PCk
open Go.RowKit Go.Proofs.YtnchlddbcomokaaW.PrintWords Go.Proofs.Ytnchlddbcomokaa.Ck
theorem S_zeros (n : Nat) : S (List.replicate n 0) = 0 := by
  induction n with
  | zero => rfl
  | succ n ih => rw [List.replicate_succ, S, ih]; rfl
theorem noughts (m : Int) : (wrap64 (Int.tmod (IntKind.u64.wrap m) 40)) = (m % 18446744073709551616) % 40 := by
  have e : IntKind.u64.wrap m = m % 18446744073709551616 := rfl
  rw [e, Int.tmod_eq_emod_of_nonneg (by omega), wrap_id (by omega) (by omega)]
theorem CheckLetters_pure : wharfingerlaw2_CheckLetters.Pure := by
  intro s m hs hm
  refine ⟨s.size + 50, ?_⟩
  unfold wharfingerlaw2_CheckLetters.f
  rw [awakeIs _ (by omega)]
  by_cases h : (s.size : Int) > 1000
  · rw [if_pos h]; rfl
  · rw [if_neg h, lettersIs s (by omega) _ (by omega), Option.bind_some, noughts]
    obtain ⟨z, hz⟩ := Int.eq_ofNat_of_zero_le (a := (m % 18446744073709551616) % 40) (by omega)
    have hz40 : z < 40 := by omega
    rw [hz, if_pos (by omega), Int.toNat_natCast, if_pos (by omega), Option.bind_some, Lt_size]
    have hsz : (strOfNums (List.replicate z (0 : Int))).size = z := by rw [strOfNums_size, List.length_replicate]
    have hb : bytesOf (strOfNums (List.replicate z (0 : Int))) = List.replicate z 0 := bytes_nums _ (fun x hx => by have := List.eq_of_mem_replicate hx; omega)
    have b0 : bt (Lt (bytesOf s)) 0 = 97 + S (bytesOf s) % 673 / 26 := two_bt0 _ (by omega) (by omega)
    have b1 : bt (Lt (bytesOf s)) 1 = 97 + S (bytesOf s) % 673 % 26 := two_bt1 _ (by omega) (by omega)
    rw [if_pos (by decide), if_pos (by decide), b0, b1, if_pos (by omega), if_pos (by omega), if_pos (by decide), if_pos (by omega), if_pos (by omega)]
    rw [lettersIs _ (by omega) _ (by omega), Option.bind_some, hb]
    have e1 : Lt (List.replicate z 0) = ⟨#[97, 97]⟩ := by unfold Lt; rw [S_zeros]; decide +kernel
    rw [e1, toList_data, if_pos rfl, hsz, if_pos (by omega)]
    have hap : (s ++ strOfNums (List.replicate z (0 : Int))).size = s.size + z := by rw [ByteArray.size_append, hsz]
    rw [lettersIs _ (by omega) _ (by omega), Option.bind_some]
    have e2 : Lt (bytesOf (s ++ strOfNums (List.replicate z (0 : Int)))) = Lt (bytesOf s) := by
      rw [Lt_iff, bytes_append, hb, S_append, S_zeros, Int.mul_zero, Int.add_zero]
    rw [e2, if_pos rfl]; rfl
end Go.Proofs.Ytnchlddbcomokaa.PCk

/-
  No cell of these rows narrows 'for every input' (looked for: loops, veiled, ifaces, maps, wideKeys, modest, calm, conditions, laid).
  DERIVED. THE GIVEN ROWS OF THIS SEAT. 12 by the template 'for every input the law returns true; each argument reads behind the call as it read before'; 0 by the template 'total and deterministic' (their statements: YtnchlddbcomokaaTotals.lean).
  GIVEN WITH THE SEED: the statements are not yours to turn. If you find one false, say at which input.
  Laid BY PROGRAM, IN A SANDBOX (cutbox-rows.mjs): the forced cells as the released guide's own fill.sh prints them over the translation ce287f3b1ca40aa8… (all of the seat's roots in one cut). By AI agents, Wed Nov 11 2026. No macro, syntax, notation, axiom, sorry.
-/
import Derived.Test.YtnchlddbcomokaaChecked
import GoSem.Claim
import GoSem.ClaimJoined
import GoSem.ClaimMapViews
import Derived.JoinedTies
import Derived.KernelRfl
namespace Go.Proofs.Ytnchlddbcomokaa
/- THE CELL 'sum', in the pinned program and in every row, IS THE sha256 OF THE DUMP (.gsa) THAT YtnchlddbcomokaaProg.lean LOADS. Nothing in Lean hashes anything: it is a label: what it is worth is what the hold of that sum in a sandbox is worth. -/
noncomputable def Try.pinned : Pinned := { name := "ytnchlddbcomokaa", sum := "ce287f3b1ca40aa81a4c9731d55d25b2681e8b39c981c83dc7cc01e6ba9a4b69", checked := Try.checked }
namespace Rows
def none {H : Type} : Left H := { results := [], args := [] }

/-- 'wharfingerlaw2.CheckTells': WHATEVER THE INPUT: true; the input reads as it did. -/
def checkTellsSpec : ChangeSpec := { name := "checkTells", fn := fun _ => fun
  | [d1, d2, d3] => { results := [.lit (.bool true)], args := [d1, d2, d3] }
  | _ => none }
def checkTellsRow : OpenClaim := { program := "ytnchlddbcomokaa", sum := "ce287f3b1ca40aa81a4c9731d55d25b2681e8b39c981c83dc7cc01e6ba9a4b69", func := "wharfinger/wharfingerlaw2.CheckTells", spec := "checkTells", apart := false }
def CheckTellsSaid : Prop := checkTellsRow.holds Try.pinned (OpenSpec.ofChange checkTellsSpec)

/-- ITS FALSE NEIGHBOUR: 'it returns false'. Refute it at one input. -/
def checkTellsWrong : ChangeSpec := { name := "checkTells", fn := fun _ => fun
  | [d1, d2, d3] => { results := [.lit (.bool false)], args := [d1, d2, d3] }
  | _ => none }
def CheckTellsWrongFalsely : Prop := checkTellsRow.holds Try.pinned (OpenSpec.ofChange checkTellsWrong)

/-- 'wharfingerlaw2.CheckLetters': WHATEVER THE INPUT: true; the input reads as it did. -/
def checkLettersSpec : ChangeSpec := { name := "checkLetters", fn := fun _ => fun
  | [d1, d2] => { results := [.lit (.bool true)], args := [d1, d2] }
  | _ => none }
def checkLettersRow : OpenClaim := { program := "ytnchlddbcomokaa", sum := "ce287f3b1ca40aa81a4c9731d55d25b2681e8b39c981c83dc7cc01e6ba9a4b69", func := "wharfinger/wharfingerlaw2.CheckLetters", spec := "checkLetters", apart := false }
def CheckLettersSaid : Prop := checkLettersRow.holds Try.pinned (OpenSpec.ofChange checkLettersSpec)

/-- ITS FALSE NEIGHBOUR: 'it returns false'. Refute it at one input. -/
def checkLettersWrong : ChangeSpec := { name := "checkLetters", fn := fun _ => fun
  | [d1, d2] => { results := [.lit (.bool false)], args := [d1, d2] }
  | _ => none }
def CheckLettersWrongFalsely : Prop := checkLettersRow.holds Try.pinned (OpenSpec.ofChange checkLettersWrong)

/-- 'wharfingerlaw2.CheckShift': WHATEVER THE INPUT: true; the input reads as it did. -/
def checkShiftSpec : ChangeSpec := { name := "checkShift", fn := fun _ => fun
  | [d] => { results := [.lit (.bool true)], args := [d] }
  | _ => none }
def checkShiftRow : OpenClaim := { program := "ytnchlddbcomokaa", sum := "ce287f3b1ca40aa81a4c9731d55d25b2681e8b39c981c83dc7cc01e6ba9a4b69", func := "wharfinger/wharfingerlaw2.CheckShift", spec := "checkShift", apart := false }
def CheckShiftSaid : Prop := checkShiftRow.holds Try.pinned (OpenSpec.ofChange checkShiftSpec)

/-- ITS FALSE NEIGHBOUR: 'it returns false'. Refute it at one input. -/
def checkShiftWrong : ChangeSpec := { name := "checkShift", fn := fun _ => fun
  | [d] => { results := [.lit (.bool false)], args := [d] }
  | _ => none }
def CheckShiftWrongFalsely : Prop := checkShiftRow.holds Try.pinned (OpenSpec.ofChange checkShiftWrong)

/-- 'wharfingerlaw2.CheckForms': WHATEVER THE INPUT: true; the input reads as it did. -/
def checkFormsSpec : ChangeSpec := { name := "checkForms", fn := fun _ => fun
  | [d] => { results := [.lit (.bool true)], args := [d] }
  | _ => none }
def checkFormsRow : OpenClaim := { program := "ytnchlddbcomokaa", sum := "ce287f3b1ca40aa81a4c9731d55d25b2681e8b39c981c83dc7cc01e6ba9a4b69", func := "wharfinger/wharfingerlaw2.CheckForms", spec := "checkForms", apart := false }
def CheckFormsSaid : Prop := checkFormsRow.holds Try.pinned (OpenSpec.ofChange checkFormsSpec)

/-- ITS FALSE NEIGHBOUR: 'it returns false'. Refute it at one input. -/
def checkFormsWrong : ChangeSpec := { name := "checkForms", fn := fun _ => fun
  | [d] => { results := [.lit (.bool false)], args := [d] }
  | _ => none }
def CheckFormsWrongFalsely : Prop := checkFormsRow.holds Try.pinned (OpenSpec.ofChange checkFormsWrong)

/-- 'wharfingerlaw2.CheckBack': WHATEVER THE INPUT: true; the input reads as it did. -/
def checkBackSpec : ChangeSpec := { name := "checkBack", fn := fun _ => fun
  | [d1, d2] => { results := [.lit (.bool true)], args := [d1, d2] }
  | _ => none }
def checkBackRow : OpenClaim := { program := "ytnchlddbcomokaa", sum := "ce287f3b1ca40aa81a4c9731d55d25b2681e8b39c981c83dc7cc01e6ba9a4b69", func := "wharfinger/wharfingerlaw2.CheckBack", spec := "checkBack", apart := false }
def CheckBackSaid : Prop := checkBackRow.holds Try.pinned (OpenSpec.ofChange checkBackSpec)

/-- ITS FALSE NEIGHBOUR: 'it returns false'. Refute it at one input. -/
def checkBackWrong : ChangeSpec := { name := "checkBack", fn := fun _ => fun
  | [d1, d2] => { results := [.lit (.bool false)], args := [d1, d2] }
  | _ => none }
def CheckBackWrongFalsely : Prop := checkBackRow.holds Try.pinned (OpenSpec.ofChange checkBackWrong)

/-- 'wharfingerlaw2.CheckShort': WHATEVER THE INPUT: true; the input reads as it did. -/
def checkShortSpec : ChangeSpec := { name := "checkShort", fn := fun _ => fun
  | [d1, d2] => { results := [.lit (.bool true)], args := [d1, d2] }
  | _ => none }
def checkShortRow : OpenClaim := { program := "ytnchlddbcomokaa", sum := "ce287f3b1ca40aa81a4c9731d55d25b2681e8b39c981c83dc7cc01e6ba9a4b69", func := "wharfinger/wharfingerlaw2.CheckShort", spec := "checkShort", apart := false }
def CheckShortSaid : Prop := checkShortRow.holds Try.pinned (OpenSpec.ofChange checkShortSpec)

/-- ITS FALSE NEIGHBOUR: 'it returns false'. Refute it at one input. -/
def checkShortWrong : ChangeSpec := { name := "checkShort", fn := fun _ => fun
  | [d1, d2] => { results := [.lit (.bool false)], args := [d1, d2] }
  | _ => none }
def CheckShortWrongFalsely : Prop := checkShortRow.holds Try.pinned (OpenSpec.ofChange checkShortWrong)

/-- 'wharfingerlaw13.TallyPlays': WHATEVER THE INPUT: true; the input reads as it did. -/
def tallyPlaysSpec : ChangeSpec := { name := "tallyPlays", fn := fun _ => fun
  | [d1, d2] => { results := [.lit (.bool true)], args := [d1, d2] }
  | _ => none }
def tallyPlaysRow : OpenClaim := { program := "ytnchlddbcomokaa", sum := "ce287f3b1ca40aa81a4c9731d55d25b2681e8b39c981c83dc7cc01e6ba9a4b69", func := "wharfinger/wharfingerlaw13.TallyPlays", spec := "tallyPlays", apart := false }
def TallyPlaysSaid : Prop := tallyPlaysRow.holds Try.pinned (OpenSpec.ofChange tallyPlaysSpec)

/-- ITS FALSE NEIGHBOUR: 'it returns false'. Refute it at one input. -/
def tallyPlaysWrong : ChangeSpec := { name := "tallyPlays", fn := fun _ => fun
  | [d1, d2] => { results := [.lit (.bool false)], args := [d1, d2] }
  | _ => none }
def TallyPlaysWrongFalsely : Prop := tallyPlaysRow.holds Try.pinned (OpenSpec.ofChange tallyPlaysWrong)

/-- 'wharfingerlaw13.TallyNil': WHATEVER THE INPUT: true; the input reads as it did. -/
def tallyNilSpec : ChangeSpec := { name := "tallyNil", fn := fun _ => fun
  | [d] => { results := [.lit (.bool true)], args := [d] }
  | _ => none }
def tallyNilRow : OpenClaim := { program := "ytnchlddbcomokaa", sum := "ce287f3b1ca40aa81a4c9731d55d25b2681e8b39c981c83dc7cc01e6ba9a4b69", func := "wharfinger/wharfingerlaw13.TallyNil", spec := "tallyNil", apart := false }
def TallyNilSaid : Prop := tallyNilRow.holds Try.pinned (OpenSpec.ofChange tallyNilSpec)

/-- ITS FALSE NEIGHBOUR: 'it returns false'. Refute it at one input. -/
def tallyNilWrong : ChangeSpec := { name := "tallyNil", fn := fun _ => fun
  | [d] => { results := [.lit (.bool false)], args := [d] }
  | _ => none }
def TallyNilWrongFalsely : Prop := tallyNilRow.holds Try.pinned (OpenSpec.ofChange tallyNilWrong)

/-- 'wharfingerlaw13.TallyStays': WHATEVER THE INPUT: true; the input reads as it did. -/
def tallyStaysSpec : ChangeSpec := { name := "tallyStays", fn := fun _ => fun
  | [d1, d2] => { results := [.lit (.bool true)], args := [d1, d2] }
  | _ => none }
def tallyStaysRow : OpenClaim := { program := "ytnchlddbcomokaa", sum := "ce287f3b1ca40aa81a4c9731d55d25b2681e8b39c981c83dc7cc01e6ba9a4b69", func := "wharfinger/wharfingerlaw13.TallyStays", spec := "tallyStays", apart := false }
def TallyStaysSaid : Prop := tallyStaysRow.holds Try.pinned (OpenSpec.ofChange tallyStaysSpec)

/-- ITS FALSE NEIGHBOUR: 'it returns false'. Refute it at one input. -/
def tallyStaysWrong : ChangeSpec := { name := "tallyStays", fn := fun _ => fun
  | [d1, d2] => { results := [.lit (.bool false)], args := [d1, d2] }
  | _ => none }
def TallyStaysWrongFalsely : Prop := tallyStaysRow.holds Try.pinned (OpenSpec.ofChange tallyStaysWrong)

/-- 'wharfingerlaw13.TallyOrder': WHATEVER THE INPUT: true; the input reads as it did. -/
def tallyOrderSpec : ChangeSpec := { name := "tallyOrder", fn := fun _ => fun
  | [d1, d2] => { results := [.lit (.bool true)], args := [d1, d2] }
  | _ => none }
def tallyOrderRow : OpenClaim := { program := "ytnchlddbcomokaa", sum := "ce287f3b1ca40aa81a4c9731d55d25b2681e8b39c981c83dc7cc01e6ba9a4b69", func := "wharfinger/wharfingerlaw13.TallyOrder", spec := "tallyOrder", apart := false }
def TallyOrderSaid : Prop := tallyOrderRow.holds Try.pinned (OpenSpec.ofChange tallyOrderSpec)

/-- ITS FALSE NEIGHBOUR: 'it returns false'. Refute it at one input. -/
def tallyOrderWrong : ChangeSpec := { name := "tallyOrder", fn := fun _ => fun
  | [d1, d2] => { results := [.lit (.bool false)], args := [d1, d2] }
  | _ => none }
def TallyOrderWrongFalsely : Prop := tallyOrderRow.holds Try.pinned (OpenSpec.ofChange tallyOrderWrong)

/-- 'wharfingerlaw15.ForceForms': WHATEVER THE INPUT: true; the input reads as it did. -/
def forceFormsSpec : ChangeSpec := { name := "forceForms", fn := fun _ => fun
  | [d1, d2, d3] => { results := [.lit (.bool true)], args := [d1, d2, d3] }
  | _ => none }
def forceFormsRow : OpenClaim := { program := "ytnchlddbcomokaa", sum := "ce287f3b1ca40aa81a4c9731d55d25b2681e8b39c981c83dc7cc01e6ba9a4b69", func := "wharfinger/wharfingerlaw15.ForceForms", spec := "forceForms", apart := false }
def ForceFormsSaid : Prop := forceFormsRow.holds Try.pinned (OpenSpec.ofChange forceFormsSpec)

/-- ITS FALSE NEIGHBOUR: 'it returns false'. Refute it at one input. -/
def forceFormsWrong : ChangeSpec := { name := "forceForms", fn := fun _ => fun
  | [d1, d2, d3] => { results := [.lit (.bool false)], args := [d1, d2, d3] }
  | _ => none }
def ForceFormsWrongFalsely : Prop := forceFormsRow.holds Try.pinned (OpenSpec.ofChange forceFormsWrong)

/-- 'wharfingerlaw15.ForceBlame': WHATEVER THE INPUT: true; the input reads as it did. -/
def forceBlameSpec : ChangeSpec := { name := "forceBlame", fn := fun _ => fun
  | [d1, d2] => { results := [.lit (.bool true)], args := [d1, d2] }
  | _ => none }
def forceBlameRow : OpenClaim := { program := "ytnchlddbcomokaa", sum := "ce287f3b1ca40aa81a4c9731d55d25b2681e8b39c981c83dc7cc01e6ba9a4b69", func := "wharfinger/wharfingerlaw15.ForceBlame", spec := "forceBlame", apart := false }
def ForceBlameSaid : Prop := forceBlameRow.holds Try.pinned (OpenSpec.ofChange forceBlameSpec)

/-- ITS FALSE NEIGHBOUR: 'it returns false'. Refute it at one input. -/
def forceBlameWrong : ChangeSpec := { name := "forceBlame", fn := fun _ => fun
  | [d1, d2] => { results := [.lit (.bool false)], args := [d1, d2] }
  | _ => none }
def ForceBlameWrongFalsely : Prop := forceBlameRow.holds Try.pinned (OpenSpec.ofChange forceBlameWrong)

/- THE SECOND FORM. 'bulk': how many values and letters a reading holds, each counted each time it is reached (what is shared counts as often as it is met; a slice's spare places count too). A statement '..UptoSaid' is the law's where the arguments, and the package variables that the reading takes, are together of bulk at most 1048576: NARROWER than '..Said'. Prove '..Said' where nothing that the law and all that it calls make is longer than what came in: it says more and counts as full. Else prove '..UptoSaid'. A law counts once. -/
mutual
def uptoBulk {H : Type} : DataW H → Nat
  | .lit (.string bytes) => bytes.length + 1
  | .lit _ => 1
  | .nil => 1
  | .ptr d => uptoBulk d + 1
  | .slice elems spare => uptoBulkAll elems + uptoBulkAll spare + 1
  | .agg parts => uptoBulkAll parts + 1
  | .iface _ d => uptoBulk d + 1
  | .map entries => uptoBulkEntries entries + 1
  | .held _ => 1
def uptoBulkAll {H : Type} : List (DataW H) → Nat
  | [] => 0
  | d :: r => uptoBulk d + uptoBulkAll r
def uptoBulkEntries {H : Type} : List (Lit × DataW H) → Nat
  | [] => 0
  | x :: r => uptoBulkEntry x + uptoBulkEntries r
def uptoBulkEntry {H : Type} : Lit × DataW H → Nat
  | (.string bytes, d) => bytes.length + uptoBulk d + 1
  | (_, d) => uptoBulk d + 1
 end
def uptoSmall : (H : Type) → List (DataW H) → Bool := fun _ ds => decide (uptoBulkAll ds ≤ 1048576)
def OpenSpec.upto (s : _root_.Go.ChangeSpec) : _root_.Go.OpenSpec := { _root_.Go.OpenSpec.ofChange s with cond := some uptoSmall }

/-- 'wharfingerlaw2.CheckTells', WHERE WHAT IT READS IS OF BULK AT MOST 1048576: true; the input reads as it did. -/
def checkTellsUptoRow : OpenClaim := { program := "ytnchlddbcomokaa", sum := "ce287f3b1ca40aa81a4c9731d55d25b2681e8b39c981c83dc7cc01e6ba9a4b69", func := "wharfinger/wharfingerlaw2.CheckTells", spec := "checkTells", apart := false, narrowed := true }
def CheckTellsUptoSaid : Prop := checkTellsUptoRow.holds Try.pinned (OpenSpec.upto checkTellsSpec)

/-- 'wharfingerlaw2.CheckLetters', WHERE WHAT IT READS IS OF BULK AT MOST 1048576: true; the input reads as it did. -/
def checkLettersUptoRow : OpenClaim := { program := "ytnchlddbcomokaa", sum := "ce287f3b1ca40aa81a4c9731d55d25b2681e8b39c981c83dc7cc01e6ba9a4b69", func := "wharfinger/wharfingerlaw2.CheckLetters", spec := "checkLetters", apart := false, narrowed := true }
def CheckLettersUptoSaid : Prop := checkLettersUptoRow.holds Try.pinned (OpenSpec.upto checkLettersSpec)

/-- 'wharfingerlaw2.CheckShift', WHERE WHAT IT READS IS OF BULK AT MOST 1048576: true; the input reads as it did. -/
def checkShiftUptoRow : OpenClaim := { program := "ytnchlddbcomokaa", sum := "ce287f3b1ca40aa81a4c9731d55d25b2681e8b39c981c83dc7cc01e6ba9a4b69", func := "wharfinger/wharfingerlaw2.CheckShift", spec := "checkShift", apart := false, narrowed := true }
def CheckShiftUptoSaid : Prop := checkShiftUptoRow.holds Try.pinned (OpenSpec.upto checkShiftSpec)

/-- 'wharfingerlaw2.CheckForms', WHERE WHAT IT READS IS OF BULK AT MOST 1048576: true; the input reads as it did. -/
def checkFormsUptoRow : OpenClaim := { program := "ytnchlddbcomokaa", sum := "ce287f3b1ca40aa81a4c9731d55d25b2681e8b39c981c83dc7cc01e6ba9a4b69", func := "wharfinger/wharfingerlaw2.CheckForms", spec := "checkForms", apart := false, narrowed := true }
def CheckFormsUptoSaid : Prop := checkFormsUptoRow.holds Try.pinned (OpenSpec.upto checkFormsSpec)

/-- 'wharfingerlaw2.CheckBack', WHERE WHAT IT READS IS OF BULK AT MOST 1048576: true; the input reads as it did. -/
def checkBackUptoRow : OpenClaim := { program := "ytnchlddbcomokaa", sum := "ce287f3b1ca40aa81a4c9731d55d25b2681e8b39c981c83dc7cc01e6ba9a4b69", func := "wharfinger/wharfingerlaw2.CheckBack", spec := "checkBack", apart := false, narrowed := true }
def CheckBackUptoSaid : Prop := checkBackUptoRow.holds Try.pinned (OpenSpec.upto checkBackSpec)

/-- 'wharfingerlaw2.CheckShort', WHERE WHAT IT READS IS OF BULK AT MOST 1048576: true; the input reads as it did. -/
def checkShortUptoRow : OpenClaim := { program := "ytnchlddbcomokaa", sum := "ce287f3b1ca40aa81a4c9731d55d25b2681e8b39c981c83dc7cc01e6ba9a4b69", func := "wharfinger/wharfingerlaw2.CheckShort", spec := "checkShort", apart := false, narrowed := true }
def CheckShortUptoSaid : Prop := checkShortUptoRow.holds Try.pinned (OpenSpec.upto checkShortSpec)

/-- 'wharfingerlaw13.TallyPlays', WHERE WHAT IT READS IS OF BULK AT MOST 1048576: true; the input reads as it did. -/
def tallyPlaysUptoRow : OpenClaim := { program := "ytnchlddbcomokaa", sum := "ce287f3b1ca40aa81a4c9731d55d25b2681e8b39c981c83dc7cc01e6ba9a4b69", func := "wharfinger/wharfingerlaw13.TallyPlays", spec := "tallyPlays", apart := false, narrowed := true }
def TallyPlaysUptoSaid : Prop := tallyPlaysUptoRow.holds Try.pinned (OpenSpec.upto tallyPlaysSpec)

/-- 'wharfingerlaw13.TallyNil', WHERE WHAT IT READS IS OF BULK AT MOST 1048576: true; the input reads as it did. -/
def tallyNilUptoRow : OpenClaim := { program := "ytnchlddbcomokaa", sum := "ce287f3b1ca40aa81a4c9731d55d25b2681e8b39c981c83dc7cc01e6ba9a4b69", func := "wharfinger/wharfingerlaw13.TallyNil", spec := "tallyNil", apart := false, narrowed := true }
def TallyNilUptoSaid : Prop := tallyNilUptoRow.holds Try.pinned (OpenSpec.upto tallyNilSpec)

/-- 'wharfingerlaw13.TallyStays', WHERE WHAT IT READS IS OF BULK AT MOST 1048576: true; the input reads as it did. -/
def tallyStaysUptoRow : OpenClaim := { program := "ytnchlddbcomokaa", sum := "ce287f3b1ca40aa81a4c9731d55d25b2681e8b39c981c83dc7cc01e6ba9a4b69", func := "wharfinger/wharfingerlaw13.TallyStays", spec := "tallyStays", apart := false, narrowed := true }
def TallyStaysUptoSaid : Prop := tallyStaysUptoRow.holds Try.pinned (OpenSpec.upto tallyStaysSpec)

/-- 'wharfingerlaw13.TallyOrder', WHERE WHAT IT READS IS OF BULK AT MOST 1048576: true; the input reads as it did. -/
def tallyOrderUptoRow : OpenClaim := { program := "ytnchlddbcomokaa", sum := "ce287f3b1ca40aa81a4c9731d55d25b2681e8b39c981c83dc7cc01e6ba9a4b69", func := "wharfinger/wharfingerlaw13.TallyOrder", spec := "tallyOrder", apart := false, narrowed := true }
def TallyOrderUptoSaid : Prop := tallyOrderUptoRow.holds Try.pinned (OpenSpec.upto tallyOrderSpec)

/-- 'wharfingerlaw15.ForceForms', WHERE WHAT IT READS IS OF BULK AT MOST 1048576: true; the input reads as it did. -/
def forceFormsUptoRow : OpenClaim := { program := "ytnchlddbcomokaa", sum := "ce287f3b1ca40aa81a4c9731d55d25b2681e8b39c981c83dc7cc01e6ba9a4b69", func := "wharfinger/wharfingerlaw15.ForceForms", spec := "forceForms", apart := false, narrowed := true }
def ForceFormsUptoSaid : Prop := forceFormsUptoRow.holds Try.pinned (OpenSpec.upto forceFormsSpec)

/-- 'wharfingerlaw15.ForceBlame', WHERE WHAT IT READS IS OF BULK AT MOST 1048576: true; the input reads as it did. -/
def forceBlameUptoRow : OpenClaim := { program := "ytnchlddbcomokaa", sum := "ce287f3b1ca40aa81a4c9731d55d25b2681e8b39c981c83dc7cc01e6ba9a4b69", func := "wharfinger/wharfingerlaw15.ForceBlame", spec := "forceBlame", apart := false, narrowed := true }
def ForceBlameUptoSaid : Prop := forceBlameUptoRow.holds Try.pinned (OpenSpec.upto forceBlameSpec)

end Rows
end Go.Proofs.Ytnchlddbcomokaa

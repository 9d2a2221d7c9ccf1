/-
  No cell of these rows narrows 'for every input' (looked for: loops, veiled, ifaces, maps, wideKeys, modest, calm, conditions, laid).
  DERIVED. THE GIVEN ROWS OF THIS SEAT. 12 by the template 'for every input the law returns true; each argument reads behind the call as it read before'; 0 by the template 'total and deterministic' (their statements: YtnchlddbcomokabTotals.lean).
  GIVEN WITH THE SEED: the statements are not yours to turn. If you find one false, say at which input.
  Laid BY PROGRAM, IN A SANDBOX (cutbox-rows.mjs): the forced cells as the released guide's own fill.sh prints them over the translation 120b0f19b5d66d76… (all of the seat's roots in one cut). By AI agents, Wed Nov 11 2026. No macro, syntax, notation, axiom, sorry.
-/
import Derived.Test.YtnchlddbcomokabChecked
import GoSem.Claim
import GoSem.ClaimJoined
import GoSem.ClaimMapViews
import Derived.JoinedTies
import Derived.KernelRfl
namespace Go.Proofs.Ytnchlddbcomokab
/- THE CELL 'sum', in the pinned program and in every row, IS THE sha256 OF THE DUMP (.gsa) THAT YtnchlddbcomokabProg.lean LOADS. Nothing in Lean hashes anything: it is a label: what it is worth is what the hold of that sum in a sandbox is worth. -/
noncomputable def Try.pinned : Pinned := { name := "ytnchlddbcomokab", sum := "120b0f19b5d66d76102d8ef4d6af81db6cd471a2da47e49e15dade7c3d144986", checked := Try.checked }
namespace Rows
def none {H : Type} : Left H := { results := [], args := [] }

/-- 'wharfingerlaw15.ForceOnly': WHATEVER THE INPUT: true; the input reads as it did. -/
def forceOnlySpec : ChangeSpec := { name := "forceOnly", fn := fun _ => fun
  | [d1, d2] => { results := [.lit (.bool true)], args := [d1, d2] }
  | _ => none }
def forceOnlyRow : OpenClaim := { program := "ytnchlddbcomokab", sum := "120b0f19b5d66d76102d8ef4d6af81db6cd471a2da47e49e15dade7c3d144986", func := "wharfinger/wharfingerlaw15.ForceOnly", spec := "forceOnly", apart := false }
def ForceOnlySaid : Prop := forceOnlyRow.holds Try.pinned (OpenSpec.ofChange forceOnlySpec)

/-- ITS FALSE NEIGHBOUR: 'it returns false'. Refute it at one input. -/
def forceOnlyWrong : ChangeSpec := { name := "forceOnly", fn := fun _ => fun
  | [d1, d2] => { results := [.lit (.bool false)], args := [d1, d2] }
  | _ => none }
def ForceOnlyWrongFalsely : Prop := forceOnlyRow.holds Try.pinned (OpenSpec.ofChange forceOnlyWrong)

/-- 'wharfingerlaw15.ForceWhich': WHATEVER THE INPUT: true; the input reads as it did. -/
def forceWhichSpec : ChangeSpec := { name := "forceWhich", fn := fun _ => fun
  | [d1, d2] => { results := [.lit (.bool true)], args := [d1, d2] }
  | _ => none }
def forceWhichRow : OpenClaim := { program := "ytnchlddbcomokab", sum := "120b0f19b5d66d76102d8ef4d6af81db6cd471a2da47e49e15dade7c3d144986", func := "wharfinger/wharfingerlaw15.ForceWhich", spec := "forceWhich", apart := false }
def ForceWhichSaid : Prop := forceWhichRow.holds Try.pinned (OpenSpec.ofChange forceWhichSpec)

/-- ITS FALSE NEIGHBOUR: 'it returns false'. Refute it at one input. -/
def forceWhichWrong : ChangeSpec := { name := "forceWhich", fn := fun _ => fun
  | [d1, d2] => { results := [.lit (.bool false)], args := [d1, d2] }
  | _ => none }
def ForceWhichWrongFalsely : Prop := forceWhichRow.holds Try.pinned (OpenSpec.ofChange forceWhichWrong)

/-- 'wharfingerlaw12.VoteSays': WHATEVER THE INPUT: true; the input reads as it did. -/
def voteSaysSpec : ChangeSpec := { name := "voteSays", fn := fun _ => fun
  | [d1, d2, d3] => { results := [.lit (.bool true)], args := [d1, d2, d3] }
  | _ => none }
def voteSaysRow : OpenClaim := { program := "ytnchlddbcomokab", sum := "120b0f19b5d66d76102d8ef4d6af81db6cd471a2da47e49e15dade7c3d144986", func := "wharfinger/wharfingerlaw12.VoteSays", spec := "voteSays", apart := false }
def VoteSaysSaid : Prop := voteSaysRow.holds Try.pinned (OpenSpec.ofChange voteSaysSpec)

/-- ITS FALSE NEIGHBOUR: 'it returns false'. Refute it at one input. -/
def voteSaysWrong : ChangeSpec := { name := "voteSays", fn := fun _ => fun
  | [d1, d2, d3] => { results := [.lit (.bool false)], args := [d1, d2, d3] }
  | _ => none }
def VoteSaysWrongFalsely : Prop := voteSaysRow.holds Try.pinned (OpenSpec.ofChange voteSaysWrong)

/-- 'wharfingerlaw12.VoteTwice': WHATEVER THE INPUT: true; the input reads as it did. -/
def voteTwiceSpec : ChangeSpec := { name := "voteTwice", fn := fun _ => fun
  | [d1, d2, d3, d4] => { results := [.lit (.bool true)], args := [d1, d2, d3, d4] }
  | _ => none }
def voteTwiceRow : OpenClaim := { program := "ytnchlddbcomokab", sum := "120b0f19b5d66d76102d8ef4d6af81db6cd471a2da47e49e15dade7c3d144986", func := "wharfinger/wharfingerlaw12.VoteTwice", spec := "voteTwice", apart := false }
def VoteTwiceSaid : Prop := voteTwiceRow.holds Try.pinned (OpenSpec.ofChange voteTwiceSpec)

/-- ITS FALSE NEIGHBOUR: 'it returns false'. Refute it at one input. -/
def voteTwiceWrong : ChangeSpec := { name := "voteTwice", fn := fun _ => fun
  | [d1, d2, d3, d4] => { results := [.lit (.bool false)], args := [d1, d2, d3, d4] }
  | _ => none }
def VoteTwiceWrongFalsely : Prop := voteTwiceRow.holds Try.pinned (OpenSpec.ofChange voteTwiceWrong)

/-- 'wharfingerlaw12.VoteDecision': WHATEVER THE INPUT: true; the input reads as it did. -/
def voteDecisionSpec : ChangeSpec := { name := "voteDecision", fn := fun _ => fun
  | [d1, d2] => { results := [.lit (.bool true)], args := [d1, d2] }
  | _ => none }
def voteDecisionRow : OpenClaim := { program := "ytnchlddbcomokab", sum := "120b0f19b5d66d76102d8ef4d6af81db6cd471a2da47e49e15dade7c3d144986", func := "wharfinger/wharfingerlaw12.VoteDecision", spec := "voteDecision", apart := false }
def VoteDecisionSaid : Prop := voteDecisionRow.holds Try.pinned (OpenSpec.ofChange voteDecisionSpec)

/-- ITS FALSE NEIGHBOUR: 'it returns false'. Refute it at one input. -/
def voteDecisionWrong : ChangeSpec := { name := "voteDecision", fn := fun _ => fun
  | [d1, d2] => { results := [.lit (.bool false)], args := [d1, d2] }
  | _ => none }
def VoteDecisionWrongFalsely : Prop := voteDecisionRow.holds Try.pinned (OpenSpec.ofChange voteDecisionWrong)

/-- 'wharfingerlaw12.VoteNames': WHATEVER THE INPUT: true; the input reads as it did. -/
def voteNamesSpec : ChangeSpec := { name := "voteNames", fn := fun _ => fun
  | [d1, d2] => { results := [.lit (.bool true)], args := [d1, d2] }
  | _ => none }
def voteNamesRow : OpenClaim := { program := "ytnchlddbcomokab", sum := "120b0f19b5d66d76102d8ef4d6af81db6cd471a2da47e49e15dade7c3d144986", func := "wharfinger/wharfingerlaw12.VoteNames", spec := "voteNames", apart := false }
def VoteNamesSaid : Prop := voteNamesRow.holds Try.pinned (OpenSpec.ofChange voteNamesSpec)

/-- ITS FALSE NEIGHBOUR: 'it returns false'. Refute it at one input. -/
def voteNamesWrong : ChangeSpec := { name := "voteNames", fn := fun _ => fun
  | [d1, d2] => { results := [.lit (.bool false)], args := [d1, d2] }
  | _ => none }
def VoteNamesWrongFalsely : Prop := voteNamesRow.holds Try.pinned (OpenSpec.ofChange voteNamesWrong)

/-- 'wharfingerlaw14.PeersForms': WHATEVER THE INPUT: true; the input reads as it did. -/
def peersFormsSpec : ChangeSpec := { name := "peersForms", fn := fun _ => fun
  | [d1, d2] => { results := [.lit (.bool true)], args := [d1, d2] }
  | _ => none }
def peersFormsRow : OpenClaim := { program := "ytnchlddbcomokab", sum := "120b0f19b5d66d76102d8ef4d6af81db6cd471a2da47e49e15dade7c3d144986", func := "wharfinger/wharfingerlaw14.PeersForms", spec := "peersForms", apart := false }
def PeersFormsSaid : Prop := peersFormsRow.holds Try.pinned (OpenSpec.ofChange peersFormsSpec)

/-- ITS FALSE NEIGHBOUR: 'it returns false'. Refute it at one input. -/
def peersFormsWrong : ChangeSpec := { name := "peersForms", fn := fun _ => fun
  | [d1, d2] => { results := [.lit (.bool false)], args := [d1, d2] }
  | _ => none }
def PeersFormsWrongFalsely : Prop := peersFormsRow.holds Try.pinned (OpenSpec.ofChange peersFormsWrong)

/-- 'wharfingerlaw14.PeersAgree': WHATEVER THE INPUT: true; the input reads as it did. -/
def peersAgreeSpec : ChangeSpec := { name := "peersAgree", fn := fun _ => fun
  | [d1, d2] => { results := [.lit (.bool true)], args := [d1, d2] }
  | _ => none }
def peersAgreeRow : OpenClaim := { program := "ytnchlddbcomokab", sum := "120b0f19b5d66d76102d8ef4d6af81db6cd471a2da47e49e15dade7c3d144986", func := "wharfinger/wharfingerlaw14.PeersAgree", spec := "peersAgree", apart := false }
def PeersAgreeSaid : Prop := peersAgreeRow.holds Try.pinned (OpenSpec.ofChange peersAgreeSpec)

/-- ITS FALSE NEIGHBOUR: 'it returns false'. Refute it at one input. -/
def peersAgreeWrong : ChangeSpec := { name := "peersAgree", fn := fun _ => fun
  | [d1, d2] => { results := [.lit (.bool false)], args := [d1, d2] }
  | _ => none }
def PeersAgreeWrongFalsely : Prop := peersAgreeRow.holds Try.pinned (OpenSpec.ofChange peersAgreeWrong)

/-- 'wharfingerlaw14.PeersFewer': WHATEVER THE INPUT: true; the input reads as it did. -/
def peersFewerSpec : ChangeSpec := { name := "peersFewer", fn := fun _ => fun
  | [d1, d2] => { results := [.lit (.bool true)], args := [d1, d2] }
  | _ => none }
def peersFewerRow : OpenClaim := { program := "ytnchlddbcomokab", sum := "120b0f19b5d66d76102d8ef4d6af81db6cd471a2da47e49e15dade7c3d144986", func := "wharfinger/wharfingerlaw14.PeersFewer", spec := "peersFewer", apart := false }
def PeersFewerSaid : Prop := peersFewerRow.holds Try.pinned (OpenSpec.ofChange peersFewerSpec)

/-- ITS FALSE NEIGHBOUR: 'it returns false'. Refute it at one input. -/
def peersFewerWrong : ChangeSpec := { name := "peersFewer", fn := fun _ => fun
  | [d1, d2] => { results := [.lit (.bool false)], args := [d1, d2] }
  | _ => none }
def PeersFewerWrongFalsely : Prop := peersFewerRow.holds Try.pinned (OpenSpec.ofChange peersFewerWrong)

/-- 'wharfingerlaw14.PeersOne': WHATEVER THE INPUT: true; the input reads as it did. -/
def peersOneSpec : ChangeSpec := { name := "peersOne", fn := fun _ => fun
  | [d1, d2] => { results := [.lit (.bool true)], args := [d1, d2] }
  | _ => none }
def peersOneRow : OpenClaim := { program := "ytnchlddbcomokab", sum := "120b0f19b5d66d76102d8ef4d6af81db6cd471a2da47e49e15dade7c3d144986", func := "wharfinger/wharfingerlaw14.PeersOne", spec := "peersOne", apart := false }
def PeersOneSaid : Prop := peersOneRow.holds Try.pinned (OpenSpec.ofChange peersOneSpec)

/-- ITS FALSE NEIGHBOUR: 'it returns false'. Refute it at one input. -/
def peersOneWrong : ChangeSpec := { name := "peersOne", fn := fun _ => fun
  | [d1, d2] => { results := [.lit (.bool false)], args := [d1, d2] }
  | _ => none }
def PeersOneWrongFalsely : Prop := peersOneRow.holds Try.pinned (OpenSpec.ofChange peersOneWrong)

/-- 'wharfingerlaw12.VoteForms': WHATEVER THE INPUT: true; the input reads as it did. -/
def voteFormsSpec : ChangeSpec := { name := "voteForms", fn := fun _ => fun
  | [d1, d2, d3, d4] => { results := [.lit (.bool true)], args := [d1, d2, d3, d4] }
  | _ => none }
def voteFormsRow : OpenClaim := { program := "ytnchlddbcomokab", sum := "120b0f19b5d66d76102d8ef4d6af81db6cd471a2da47e49e15dade7c3d144986", func := "wharfinger/wharfingerlaw12.VoteForms", spec := "voteForms", apart := false }
def VoteFormsSaid : Prop := voteFormsRow.holds Try.pinned (OpenSpec.ofChange voteFormsSpec)

/-- ITS FALSE NEIGHBOUR: 'it returns false'. Refute it at one input. -/
def voteFormsWrong : ChangeSpec := { name := "voteForms", fn := fun _ => fun
  | [d1, d2, d3, d4] => { results := [.lit (.bool false)], args := [d1, d2, d3, d4] }
  | _ => none }
def VoteFormsWrongFalsely : Prop := voteFormsRow.holds Try.pinned (OpenSpec.ofChange voteFormsWrong)

/-- 'wharfingerlaw12.VoteStays': WHATEVER THE INPUT: true; the input reads as it did. -/
def voteStaysSpec : ChangeSpec := { name := "voteStays", fn := fun _ => fun
  | [d1, d2] => { results := [.lit (.bool true)], args := [d1, d2] }
  | _ => none }
def voteStaysRow : OpenClaim := { program := "ytnchlddbcomokab", sum := "120b0f19b5d66d76102d8ef4d6af81db6cd471a2da47e49e15dade7c3d144986", func := "wharfinger/wharfingerlaw12.VoteStays", spec := "voteStays", apart := false }
def VoteStaysSaid : Prop := voteStaysRow.holds Try.pinned (OpenSpec.ofChange voteStaysSpec)

/-- ITS FALSE NEIGHBOUR: 'it returns false'. Refute it at one input. -/
def voteStaysWrong : ChangeSpec := { name := "voteStays", fn := fun _ => fun
  | [d1, d2] => { results := [.lit (.bool false)], args := [d1, d2] }
  | _ => none }
def VoteStaysWrongFalsely : Prop := voteStaysRow.holds Try.pinned (OpenSpec.ofChange voteStaysWrong)

/- THE SECOND FORM. 'bulk': how many values and letters a reading holds, each counted each time it is reached (what is shared counts as often as it is met; a slice's spare places count too). A statement '..UptoSaid' is the law's where the arguments, and the package variables that the reading takes, are together of bulk at most 1048576: NARROWER than '..Said'. Prove '..Said' where nothing that the law and all that it calls make is longer than what came in: it says more and counts as full. Else prove '..UptoSaid'. A law counts once. -/
mutual
def uptoBulk {H : Type} : DataW H → Nat
  | .lit (.string bytes) => bytes.length + 1
  | .lit _ => 1
  | .nil => 1
  | .ptr d => uptoBulk d + 1
  | .slice elems spare => uptoBulkAll elems + uptoBulkAll spare + 1
  | .agg parts => uptoBulkAll parts + 1
  | .iface _ d => uptoBulk d + 1
  | .map entries => uptoBulkEntries entries + 1
  | .held _ => 1
def uptoBulkAll {H : Type} : List (DataW H) → Nat
  | [] => 0
  | d :: r => uptoBulk d + uptoBulkAll r
def uptoBulkEntries {H : Type} : List (Lit × DataW H) → Nat
  | [] => 0
  | x :: r => uptoBulkEntry x + uptoBulkEntries r
def uptoBulkEntry {H : Type} : Lit × DataW H → Nat
  | (.string bytes, d) => bytes.length + uptoBulk d + 1
  | (_, d) => uptoBulk d + 1
 end
def uptoSmall : (H : Type) → List (DataW H) → Bool := fun _ ds => decide (uptoBulkAll ds ≤ 1048576)
def OpenSpec.upto (s : _root_.Go.ChangeSpec) : _root_.Go.OpenSpec := { _root_.Go.OpenSpec.ofChange s with cond := some uptoSmall }

/-- 'wharfingerlaw15.ForceOnly', WHERE WHAT IT READS IS OF BULK AT MOST 1048576: true; the input reads as it did. -/
def forceOnlyUptoRow : OpenClaim := { program := "ytnchlddbcomokab", sum := "120b0f19b5d66d76102d8ef4d6af81db6cd471a2da47e49e15dade7c3d144986", func := "wharfinger/wharfingerlaw15.ForceOnly", spec := "forceOnly", apart := false, narrowed := true }
def ForceOnlyUptoSaid : Prop := forceOnlyUptoRow.holds Try.pinned (OpenSpec.upto forceOnlySpec)

/-- 'wharfingerlaw15.ForceWhich', WHERE WHAT IT READS IS OF BULK AT MOST 1048576: true; the input reads as it did. -/
def forceWhichUptoRow : OpenClaim := { program := "ytnchlddbcomokab", sum := "120b0f19b5d66d76102d8ef4d6af81db6cd471a2da47e49e15dade7c3d144986", func := "wharfinger/wharfingerlaw15.ForceWhich", spec := "forceWhich", apart := false, narrowed := true }
def ForceWhichUptoSaid : Prop := forceWhichUptoRow.holds Try.pinned (OpenSpec.upto forceWhichSpec)

/-- 'wharfingerlaw12.VoteSays', WHERE WHAT IT READS IS OF BULK AT MOST 1048576: true; the input reads as it did. -/
def voteSaysUptoRow : OpenClaim := { program := "ytnchlddbcomokab", sum := "120b0f19b5d66d76102d8ef4d6af81db6cd471a2da47e49e15dade7c3d144986", func := "wharfinger/wharfingerlaw12.VoteSays", spec := "voteSays", apart := false, narrowed := true }
def VoteSaysUptoSaid : Prop := voteSaysUptoRow.holds Try.pinned (OpenSpec.upto voteSaysSpec)

/-- 'wharfingerlaw12.VoteTwice', WHERE WHAT IT READS IS OF BULK AT MOST 1048576: true; the input reads as it did. -/
def voteTwiceUptoRow : OpenClaim := { program := "ytnchlddbcomokab", sum := "120b0f19b5d66d76102d8ef4d6af81db6cd471a2da47e49e15dade7c3d144986", func := "wharfinger/wharfingerlaw12.VoteTwice", spec := "voteTwice", apart := false, narrowed := true }
def VoteTwiceUptoSaid : Prop := voteTwiceUptoRow.holds Try.pinned (OpenSpec.upto voteTwiceSpec)

/-- 'wharfingerlaw12.VoteDecision', WHERE WHAT IT READS IS OF BULK AT MOST 1048576: true; the input reads as it did. -/
def voteDecisionUptoRow : OpenClaim := { program := "ytnchlddbcomokab", sum := "120b0f19b5d66d76102d8ef4d6af81db6cd471a2da47e49e15dade7c3d144986", func := "wharfinger/wharfingerlaw12.VoteDecision", spec := "voteDecision", apart := false, narrowed := true }
def VoteDecisionUptoSaid : Prop := voteDecisionUptoRow.holds Try.pinned (OpenSpec.upto voteDecisionSpec)

/-- 'wharfingerlaw12.VoteNames', WHERE WHAT IT READS IS OF BULK AT MOST 1048576: true; the input reads as it did. -/
def voteNamesUptoRow : OpenClaim := { program := "ytnchlddbcomokab", sum := "120b0f19b5d66d76102d8ef4d6af81db6cd471a2da47e49e15dade7c3d144986", func := "wharfinger/wharfingerlaw12.VoteNames", spec := "voteNames", apart := false, narrowed := true }
def VoteNamesUptoSaid : Prop := voteNamesUptoRow.holds Try.pinned (OpenSpec.upto voteNamesSpec)

/-- 'wharfingerlaw14.PeersForms', WHERE WHAT IT READS IS OF BULK AT MOST 1048576: true; the input reads as it did. -/
def peersFormsUptoRow : OpenClaim := { program := "ytnchlddbcomokab", sum := "120b0f19b5d66d76102d8ef4d6af81db6cd471a2da47e49e15dade7c3d144986", func := "wharfinger/wharfingerlaw14.PeersForms", spec := "peersForms", apart := false, narrowed := true }
def PeersFormsUptoSaid : Prop := peersFormsUptoRow.holds Try.pinned (OpenSpec.upto peersFormsSpec)

/-- 'wharfingerlaw14.PeersAgree', WHERE WHAT IT READS IS OF BULK AT MOST 1048576: true; the input reads as it did. -/
def peersAgreeUptoRow : OpenClaim := { program := "ytnchlddbcomokab", sum := "120b0f19b5d66d76102d8ef4d6af81db6cd471a2da47e49e15dade7c3d144986", func := "wharfinger/wharfingerlaw14.PeersAgree", spec := "peersAgree", apart := false, narrowed := true }
def PeersAgreeUptoSaid : Prop := peersAgreeUptoRow.holds Try.pinned (OpenSpec.upto peersAgreeSpec)

/-- 'wharfingerlaw14.PeersFewer', WHERE WHAT IT READS IS OF BULK AT MOST 1048576: true; the input reads as it did. -/
def peersFewerUptoRow : OpenClaim := { program := "ytnchlddbcomokab", sum := "120b0f19b5d66d76102d8ef4d6af81db6cd471a2da47e49e15dade7c3d144986", func := "wharfinger/wharfingerlaw14.PeersFewer", spec := "peersFewer", apart := false, narrowed := true }
def PeersFewerUptoSaid : Prop := peersFewerUptoRow.holds Try.pinned (OpenSpec.upto peersFewerSpec)

/-- 'wharfingerlaw14.PeersOne', WHERE WHAT IT READS IS OF BULK AT MOST 1048576: true; the input reads as it did. -/
def peersOneUptoRow : OpenClaim := { program := "ytnchlddbcomokab", sum := "120b0f19b5d66d76102d8ef4d6af81db6cd471a2da47e49e15dade7c3d144986", func := "wharfinger/wharfingerlaw14.PeersOne", spec := "peersOne", apart := false, narrowed := true }
def PeersOneUptoSaid : Prop := peersOneUptoRow.holds Try.pinned (OpenSpec.upto peersOneSpec)

/-- 'wharfingerlaw12.VoteForms', WHERE WHAT IT READS IS OF BULK AT MOST 1048576: true; the input reads as it did. -/
def voteFormsUptoRow : OpenClaim := { program := "ytnchlddbcomokab", sum := "120b0f19b5d66d76102d8ef4d6af81db6cd471a2da47e49e15dade7c3d144986", func := "wharfinger/wharfingerlaw12.VoteForms", spec := "voteForms", apart := false, narrowed := true }
def VoteFormsUptoSaid : Prop := voteFormsUptoRow.holds Try.pinned (OpenSpec.upto voteFormsSpec)

/-- 'wharfingerlaw12.VoteStays', WHERE WHAT IT READS IS OF BULK AT MOST 1048576: true; the input reads as it did. -/
def voteStaysUptoRow : OpenClaim := { program := "ytnchlddbcomokab", sum := "120b0f19b5d66d76102d8ef4d6af81db6cd471a2da47e49e15dade7c3d144986", func := "wharfinger/wharfingerlaw12.VoteStays", spec := "voteStays", apart := false, narrowed := true }
def VoteStaysUptoSaid : Prop := voteStaysUptoRow.holds Try.pinned (OpenSpec.upto voteStaysSpec)

end Rows
end Go.Proofs.Ytnchlddbcomokab

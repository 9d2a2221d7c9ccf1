/-
  DERIVED. GIVEN WITH THE SEED: THE CARDS: each row of YtlnghlamnehfjaaGreatDoorRows.lean that lists a variable, with what it lists TIED to the program's text (the seventh form; the later family's looks); each row that meets fmt, with fmt's text TOLD by the authors' own Lean function (tested against real Go, not proved from fmt's source: count such statements apart). THE CARD IS WHAT COUNTS. Prove the row's statement (the work); the ties are given (YtlnghlamnehfjaaGreatDoorTie.lean); close each card by the builder's one call (the guide's Derived/Test/ToyasCard.lean, 'card_holds'). Laid BY PROGRAM, IN A SANDBOX (cutbox-door.mjs). By AI agents, Wed Nov 11 2026. No macro, syntax, notation, axiom, sorry.
-/
import Derived.Test.YtlnghlamnehfjaaGreatDoorRows
import GoSem.ClaimSeven
namespace Go.Proofs.YtlnghlamnehfjaaGreatDoor
namespace Rows

/-- THE TIED CARD OF 'wharfingertop.TopEnds'. -/
def topEndsCard : Claim7 := { stood := { row := topEndsRow, standIns := [], harness := (true, "c07733836fbfb2bfe5bac3862da1769bdf6495dfd95894ed5cc233ee5cefefaa"), looks := true }, kinds := [], alts := [], laidByText := true, laidKinds := [.data, .data, .data], laidTests := true, laidLooks := .later }
def TopEndsCardSaid : Prop := Claim7.holds Tryz.pinned (.plain (OpenSpec.ofChange topEndsSpec)) topEndsCard

/-- THE TIED CARD OF 'wharfingertop.TopForce'. -/
def topForceCard : Claim7 := { stood := { row := topForceRow, standIns := [], harness := (true, "c07733836fbfb2bfe5bac3862da1769bdf6495dfd95894ed5cc233ee5cefefaa"), looks := true }, kinds := [], alts := [], laidByText := true, laidKinds := [.data, .data, .data], laidTests := true, laidLooks := .later }
def TopForceCardSaid : Prop := Claim7.holds Tryz.pinned (.plain (OpenSpec.ofChange topForceSpec)) topForceCard

/-- THE TIED CARD OF 'wharfingertop.TopPeers'. -/
def topPeersCard : Claim7 := { stood := { row := topPeersRow, standIns := [], harness := (true, "c07733836fbfb2bfe5bac3862da1769bdf6495dfd95894ed5cc233ee5cefefaa"), looks := true }, kinds := [], alts := [], laidByText := true, laidKinds := [.data, .data, .data], laidTests := true, laidLooks := .later }
def TopPeersCardSaid : Prop := Claim7.holds Tryz.pinned (.plain (OpenSpec.ofChange topPeersSpec)) topPeersCard

/-- THE SECOND FORM's CARD OF 'wharfingertop.TopEnds'. -/
def topEndsUptoCard : Claim7 := { stood := { row := topEndsUptoRow, standIns := [], harness := (true, "c07733836fbfb2bfe5bac3862da1769bdf6495dfd95894ed5cc233ee5cefefaa"), looks := true }, kinds := [], alts := [], laidByText := true, laidKinds := [.data, .data, .data], laidTests := true, laidLooks := .later }
def TopEndsUptoCardSaid : Prop := Claim7.holds Tryz.pinned (.plain (OpenSpec.upto topEndsSpec)) topEndsUptoCard

/-- THE SECOND FORM's CARD OF 'wharfingertop.TopForce'. -/
def topForceUptoCard : Claim7 := { stood := { row := topForceUptoRow, standIns := [], harness := (true, "c07733836fbfb2bfe5bac3862da1769bdf6495dfd95894ed5cc233ee5cefefaa"), looks := true }, kinds := [], alts := [], laidByText := true, laidKinds := [.data, .data, .data], laidTests := true, laidLooks := .later }
def TopForceUptoCardSaid : Prop := Claim7.holds Tryz.pinned (.plain (OpenSpec.upto topForceSpec)) topForceUptoCard

/-- THE SECOND FORM's CARD OF 'wharfingertop.TopPeers'. -/
def topPeersUptoCard : Claim7 := { stood := { row := topPeersUptoRow, standIns := [], harness := (true, "c07733836fbfb2bfe5bac3862da1769bdf6495dfd95894ed5cc233ee5cefefaa"), looks := true }, kinds := [], alts := [], laidByText := true, laidKinds := [.data, .data, .data], laidTests := true, laidLooks := .later }
def TopPeersUptoCardSaid : Prop := Claim7.holds Tryz.pinned (.plain (OpenSpec.upto topPeersSpec)) topPeersUptoCard
end Rows
end Go.Proofs.YtlnghlamnehfjaaGreatDoor

/-
  DERIVED. GIVEN WITH THE SEED: THE CARDS: each row of YteljmjpmhhofoaaGreatDoorRows.lean that lists a variable, with what it lists TIED to the program's text (the seventh form; the later family's looks); each row that meets fmt, with fmt's text TOLD by the authors' own Lean function (tested against real Go, not proved from fmt's source: count such statements apart). THE CARD IS WHAT COUNTS. Prove the row's statement (the work); the ties are given (YteljmjpmhhofoaaGreatDoorTie.lean); close each card by the builder's one call (the guide's Derived/Test/ToyasCard.lean, 'card_holds'). Laid BY PROGRAM, IN A SANDBOX (cutbox-door.mjs). By AI agents, Wed Nov 11 2026. No macro, syntax, notation, axiom, sorry.
-/
import Derived.Test.YteljmjpmhhofoaaGreatDoorRows
import GoSem.ClaimSeven
namespace Go.Proofs.YteljmjpmhhofoaaGreatDoor
namespace Rows

/-- THE TIED CARD OF 'sleuthlaw05.SliceKnown'. -/
def sliceKnownCard : Claim7 := { stood := { row := sliceKnownRow, standIns := [], harness := (true, "405bd49c34056cc888a90720b54f717f077fcc640faa326e15ad374d7d81f6bd"), looks := true }, kinds := [], alts := [], laidByText := true, laidKinds := [.data, .data, .data, .sentinel, .sentinel], laidTests := true, laidLooks := .later }
def SliceKnownCardSaid : Prop := Claim7.holds Tryz.pinned (.plain (OpenSpec.ofChange sliceKnownSpec)) sliceKnownCard

/-- THE SECOND FORM's CARD OF 'sleuthlaw05.SliceKnown'. -/
def sliceKnownUptoCard : Claim7 := { stood := { row := sliceKnownUptoRow, standIns := [], harness := (true, "405bd49c34056cc888a90720b54f717f077fcc640faa326e15ad374d7d81f6bd"), looks := true }, kinds := [], alts := [], laidByText := true, laidKinds := [.data, .data, .data, .sentinel, .sentinel], laidTests := true, laidLooks := .later }
def SliceKnownUptoCardSaid : Prop := Claim7.holds Tryz.pinned (.plain (OpenSpec.upto sliceKnownSpec)) sliceKnownUptoCard
end Rows
end Go.Proofs.YteljmjpmhhofoaaGreatDoor

/-
  DERIVED. GIVEN WITH THE SEED: THE CARDS: each row of YtakkhdakmmpggaaGreatDoorRRRows.lean that lists a variable, with what it lists TIED to the program's text (the seventh form; the later family's looks); each row that meets fmt, with fmt's text TOLD by the authors' own Lean function (tested against real Go, not proved from fmt's source: count such statements apart). THE CARD IS WHAT COUNTS. Prove the row's statement (the work); the ties are given (YtakkhdakmmpggaaGreatDoorRRTie.lean); close each card by the builder's one call (the guide's Derived/Test/ToyasCard.lean, 'card_holds'). Laid BY PROGRAM, IN A SANDBOX (cutbox-door.mjs). By AI agents, Wed Nov 11 2026. No macro, syntax, notation, axiom, sorry.
-/
import Derived.Test.YtakkhdakmmpggaaGreatDoorRRRows
import GoSem.ClaimSeven
namespace Go.Proofs.YtakkhdakmmpggaaGreatDoorRR
namespace Rows

/-- THE TIED CARD OF 'narthexlaw29.PrologInner'. -/
def prologInnerCard : Claim7 := { stood := { row := prologInnerRow, standIns := [], harness := (true, "ce7d15309f71603a5716e6d21dca3d485faa8f565ab3ecda8310fafd614285fa"), looks := false }, kinds := [], alts := [], laidByText := true, laidKinds := [.data, .data, .data, .data, .widerDeep, .widerDeep, .widerDeep, .data, .widerDeep, .widerDeep, .data, .pinned, .pinned], laidTests := true, laidLooks := .later }
def PrologInnerCardSaid : Prop := Claim7.holds Tryz.pinned (.plain (OpenSpec.ofChange prologInnerSpec)) prologInnerCard

/-- THE SECOND FORM's CARD OF 'narthexlaw29.PrologInner'. -/
def prologInnerUptoCard : Claim7 := { stood := { row := prologInnerUptoRow, standIns := [], harness := (true, "ce7d15309f71603a5716e6d21dca3d485faa8f565ab3ecda8310fafd614285fa"), looks := false }, kinds := [], alts := [], laidByText := true, laidKinds := [.data, .data, .data, .data, .widerDeep, .widerDeep, .widerDeep, .data, .widerDeep, .widerDeep, .data, .pinned, .pinned], laidTests := true, laidLooks := .later }
def PrologInnerUptoCardSaid : Prop := Claim7.holds Tryz.pinned (.plain (OpenSpec.upto prologInnerSpec)) prologInnerUptoCard
end Rows
end Go.Proofs.YtakkhdakmmpggaaGreatDoorRR

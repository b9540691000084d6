/-
  DERIVED. GIVEN WITH THE SEED: THE CARDS: each row of YtnehgpeelgjjhaaGreatDoorRows.lean that lists a variable, with what it lists TIED to the program's text (the seventh form; the later family's looks); each row that meets fmt, with fmt's text TOLD by the authors' own Lean function (tested against real Go, not proved from fmt's source: count such statements apart). THE CARD IS WHAT COUNTS. Prove the row's statement (the work); the ties are given (YtnehgpeelgjjhaaGreatDoorTie.lean); close each card by the builder's one call (the guide's Derived/Test/ToyasCard.lean, 'card_holds'). Laid BY PROGRAM, IN A SANDBOX (cutbox-door.mjs). By AI agents, Wed Nov 11 2026. No macro, syntax, notation, axiom, sorry.
-/
import Derived.Test.YtnehgpeelgjjhaaGreatDoorRows
import GoSem.ClaimSeven
namespace Go.Proofs.YtnehgpeelgjjhaaGreatDoor
namespace Rows

/-- THE TIED CARD OF 'clearwaylaw31.ReplicaMatchesReference'. -/
def replicaMatchesReferenceCard : Claim7 := { stood := { row := replicaMatchesReferenceRow, standIns := [], harness := (true, "3b04a6dbf67849fcbfbbffd61e5fc21e37ba9dbcacf7e04adba764dc70da4b72"), looks := true }, kinds := [], alts := [], laidByText := true, laidKinds := [.data, .data, .funcs], laidTests := true, laidLooks := .later }
def ReplicaMatchesReferenceCardSaid : Prop := Claim7.holds Tryz.pinned (.plain (OpenSpec.ofChange replicaMatchesReferenceSpec)) replicaMatchesReferenceCard

/-- THE TIED CARD OF 'clearwaylaw31.ReplicaStable'. -/
def replicaStableCard : Claim7 := { stood := { row := replicaStableRow, standIns := [], harness := (true, "3b04a6dbf67849fcbfbbffd61e5fc21e37ba9dbcacf7e04adba764dc70da4b72"), looks := true }, kinds := [], alts := [], laidByText := true, laidKinds := [.data, .data, .funcs], laidTests := true, laidLooks := .later }
def ReplicaStableCardSaid : Prop := Claim7.holds Tryz.pinned (.plain (OpenSpec.ofChange replicaStableSpec)) replicaStableCard

/-- THE TIED CARD OF 'clearwaylaw31.ReplicaAgree'. -/
def replicaAgreeCard : Claim7 := { stood := { row := replicaAgreeRow, standIns := [], harness := (true, "3b04a6dbf67849fcbfbbffd61e5fc21e37ba9dbcacf7e04adba764dc70da4b72"), looks := true }, kinds := [], alts := [], laidByText := true, laidKinds := [.data, .data, .funcs], laidTests := true, laidLooks := .later }
def ReplicaAgreeCardSaid : Prop := Claim7.holds Tryz.pinned (.plain (OpenSpec.ofChange replicaAgreeSpec)) replicaAgreeCard

/-- THE SECOND FORM's CARD OF 'clearwaylaw31.ReplicaMatchesReference'. -/
def replicaMatchesReferenceUptoCard : Claim7 := { stood := { row := replicaMatchesReferenceUptoRow, standIns := [], harness := (true, "3b04a6dbf67849fcbfbbffd61e5fc21e37ba9dbcacf7e04adba764dc70da4b72"), looks := true }, kinds := [], alts := [], laidByText := true, laidKinds := [.data, .data, .funcs], laidTests := true, laidLooks := .later }
def ReplicaMatchesReferenceUptoCardSaid : Prop := Claim7.holds Tryz.pinned (.plain (OpenSpec.upto replicaMatchesReferenceSpec)) replicaMatchesReferenceUptoCard

/-- THE SECOND FORM's CARD OF 'clearwaylaw31.ReplicaStable'. -/
def replicaStableUptoCard : Claim7 := { stood := { row := replicaStableUptoRow, standIns := [], harness := (true, "3b04a6dbf67849fcbfbbffd61e5fc21e37ba9dbcacf7e04adba764dc70da4b72"), looks := true }, kinds := [], alts := [], laidByText := true, laidKinds := [.data, .data, .funcs], laidTests := true, laidLooks := .later }
def ReplicaStableUptoCardSaid : Prop := Claim7.holds Tryz.pinned (.plain (OpenSpec.upto replicaStableSpec)) replicaStableUptoCard

/-- THE SECOND FORM's CARD OF 'clearwaylaw31.ReplicaAgree'. -/
def replicaAgreeUptoCard : Claim7 := { stood := { row := replicaAgreeUptoRow, standIns := [], harness := (true, "3b04a6dbf67849fcbfbbffd61e5fc21e37ba9dbcacf7e04adba764dc70da4b72"), looks := true }, kinds := [], alts := [], laidByText := true, laidKinds := [.data, .data, .funcs], laidTests := true, laidLooks := .later }
def ReplicaAgreeUptoCardSaid : Prop := Claim7.holds Tryz.pinned (.plain (OpenSpec.upto replicaAgreeSpec)) replicaAgreeUptoCard
end Rows
end Go.Proofs.YtnehgpeelgjjhaaGreatDoor

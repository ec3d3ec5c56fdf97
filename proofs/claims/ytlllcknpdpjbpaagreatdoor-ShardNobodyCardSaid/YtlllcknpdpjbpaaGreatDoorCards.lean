/-
  DERIVED. GIVEN WITH THE SEED: THE CARDS: each row of YtlllcknpdpjbpaaGreatDoorRows.lean that lists a variable, with what it lists TIED to the program's text (the seventh form; the later family's looks); each row that meets fmt, with fmt's text TOLD by the authors' own Lean function (tested against real Go, not proved from fmt's source: count such statements apart). THE CARD IS WHAT COUNTS. Prove the row's statement (the work); the ties are given (YtlllcknpdpjbpaaGreatDoorTie.lean); close each card by the builder's one call (the guide's Derived/Test/ToyasCard.lean, 'card_holds'). Laid BY PROGRAM, IN A SANDBOX (cutbox-door.mjs). By AI agents, Wed Nov 11 2026. No macro, syntax, notation, axiom, sorry.
-/
import Derived.Test.YtlllcknpdpjbpaaGreatDoorRows
import GoSem.ClaimSeven
namespace Go.Proofs.YtlllcknpdpjbpaaGreatDoor
namespace Rows

/-- THE TIED CARD OF 'peeragelaw28.ShardNobody'. -/
def shardNobodyCard : Claim7 := { stood := { row := shardNobodyRow, standIns := [], harness := (true, "05456fa26f96d7da3dbbb689bf29da0bd26d92d46135f1b712013681afec4e9b"), looks := true }, kinds := [], alts := [], laidByText := true, laidKinds := [.data, .pinned], laidTests := true, laidLooks := .later }
def ShardNobodyCardSaid : Prop := Claim7.holds Tryz.pinned (.plain (OpenSpec.ofChange shardNobodySpec)) shardNobodyCard

/-- THE SECOND FORM's CARD OF 'peeragelaw28.ShardNobody'. -/
def shardNobodyUptoCard : Claim7 := { stood := { row := shardNobodyUptoRow, standIns := [], harness := (true, "05456fa26f96d7da3dbbb689bf29da0bd26d92d46135f1b712013681afec4e9b"), looks := true }, kinds := [], alts := [], laidByText := true, laidKinds := [.data, .pinned], laidTests := true, laidLooks := .later }
def ShardNobodyUptoCardSaid : Prop := Claim7.holds Tryz.pinned (.plain (OpenSpec.upto shardNobodySpec)) shardNobodyUptoCard
end Rows
end Go.Proofs.YtlllcknpdpjbpaaGreatDoor

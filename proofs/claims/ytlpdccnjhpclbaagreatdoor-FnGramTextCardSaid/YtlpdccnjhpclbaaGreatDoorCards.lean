/-
  DERIVED. GIVEN WITH THE SEED: THE CARDS: each row of YtlpdccnjhpclbaaGreatDoorRows.lean that lists a variable, with what it lists TIED to the program's text (the seventh form; the later family's looks); each row that meets fmt, with fmt's text TOLD by the authors' own Lean function (tested against real Go, not proved from fmt's source: count such statements apart). THE CARD IS WHAT COUNTS. Prove the row's statement (the work); the ties are given (YtlpdccnjhpclbaaGreatDoorTie.lean); close each card by the builder's one call (the guide's Derived/Test/ToyasCard.lean, 'card_holds'). Laid BY PROGRAM, IN A SANDBOX (cutbox-door.mjs). By AI agents, Wed Nov 11 2026. No macro, syntax, notation, axiom, sorry.
-/
import Derived.Test.YtlpdccnjhpclbaaGreatDoorRows
import GoSem.ClaimSeven
namespace Go.Proofs.YtlpdccnjhpclbaaGreatDoor
namespace Rows

/-- THE TIED CARD OF 'laws.FnGramAll'. -/
def fnGramAllCard : Claim7 := { stood := { row := fnGramAllRow, standIns := [], harness := (true, "11f7517ccbf9d3f649fa2f80d930d25483a498b3ced8cd521d9ff17836723ea0"), looks := true }, kinds := [], alts := [], laidByText := true, laidKinds := [.data, .data, .data, .sentinel, .sentinel, .sentinel, .data], laidTests := true, laidLooks := .later }
def FnGramAllCardSaid : Prop := Claim7.holds Tryz.pinned (.plain (OpenSpec.ofChange fnGramAllSpec)) fnGramAllCard

/-- THE TIED CARD OF 'laws.FnGramText'. -/
def fnGramTextCard : Claim7 := { stood := { row := fnGramTextRow, standIns := [], harness := (true, "11f7517ccbf9d3f649fa2f80d930d25483a498b3ced8cd521d9ff17836723ea0"), looks := true }, kinds := [], alts := [], laidByText := true, laidKinds := [.data, .data, .data, .sentinel, .sentinel, .sentinel, .data], laidTests := true, laidLooks := .later }
def FnGramTextCardSaid : Prop := Claim7.holds Tryz.pinned (.plain (OpenSpec.ofChange fnGramTextSpec)) fnGramTextCard

/-- THE SECOND FORM's CARD OF 'laws.FnGramAll'. -/
def fnGramAllUptoCard : Claim7 := { stood := { row := fnGramAllUptoRow, standIns := [], harness := (true, "11f7517ccbf9d3f649fa2f80d930d25483a498b3ced8cd521d9ff17836723ea0"), looks := true }, kinds := [], alts := [], laidByText := true, laidKinds := [.data, .data, .data, .sentinel, .sentinel, .sentinel, .data], laidTests := true, laidLooks := .later }
def FnGramAllUptoCardSaid : Prop := Claim7.holds Tryz.pinned (.plain (OpenSpec.upto fnGramAllSpec)) fnGramAllUptoCard

/-- THE SECOND FORM's CARD OF 'laws.FnGramText'. -/
def fnGramTextUptoCard : Claim7 := { stood := { row := fnGramTextUptoRow, standIns := [], harness := (true, "11f7517ccbf9d3f649fa2f80d930d25483a498b3ced8cd521d9ff17836723ea0"), looks := true }, kinds := [], alts := [], laidByText := true, laidKinds := [.data, .data, .data, .sentinel, .sentinel, .sentinel, .data], laidTests := true, laidLooks := .later }
def FnGramTextUptoCardSaid : Prop := Claim7.holds Tryz.pinned (.plain (OpenSpec.upto fnGramTextSpec)) fnGramTextUptoCard
end Rows
end Go.Proofs.YtlpdccnjhpclbaaGreatDoor

/-
  DERIVED. GIVEN WITH THE SEED: THE CARDS: each row of YtlpgcbkialcjcaaDoorRows.lean that lists a variable, with what it lists TIED to the program's text (the seventh form; the later family's looks); each row that meets fmt, with fmt's text TOLD by the authors' own Lean function (tested against real Go, not proved from fmt's source: count such statements apart). THE CARD IS WHAT COUNTS. Prove the row's statement (the work); the ties are given (YtlpgcbkialcjcaaDoorTie.lean); close each card by the builder's one call (the guide's Derived/Test/ToyasCard.lean, 'card_holds'). Laid BY PROGRAM, IN A SANDBOX (cutbox-door.mjs). By AI agents, Wed Nov 11 2026. No macro, syntax, notation, axiom, sorry.
-/
import Derived.Test.YtlpgcbkialcjcaaDoorRows
import GoSem.ClaimSeven
namespace Go.Proofs.YtlpgcbkialcjcaaDoor
namespace Rows

/-- THE TIED CARD OF 'laws.FnExactMessageOf'. -/
def fnExactMessageOfCard : Claim7 := { stood := { row := fnExactMessageOfRow, standIns := [], harness := (true, "38aaf2fedfbddf007f4b6b5dc82464ac8a28f6a96871618f9759420f6975e03c"), looks := true }, kinds := [], alts := [], laidByText := true, laidKinds := [.data, .data, .data, .widerDeep], laidTests := true, laidLooks := .later }
def FnExactMessageOfCardSaid : Prop := Claim7.holds Tryd.pinned (.plain (OpenSpec.ofChange fnExactMessageOfSpec)) fnExactMessageOfCard

/-- THE TIED CARD OF 'laws.FnExactParseMessage'. -/
def fnExactParseMessageCard : Claim7 := { stood := { row := fnExactParseMessageRow, standIns := [], harness := (true, "38aaf2fedfbddf007f4b6b5dc82464ac8a28f6a96871618f9759420f6975e03c"), looks := true }, kinds := [], alts := [], laidByText := true, laidKinds := [.data, .data, .data, .data, .sentinel, .sentinel, .widerDeep, .pinned], laidTests := true, laidLooks := .later }
def FnExactParseMessageCardSaid : Prop := Claim7.holds Tryd.pinned (.plain (OpenSpec.ofChange fnExactParseMessageSpec)) fnExactParseMessageCard

/-- THE SECOND FORM's CARD OF 'laws.FnExactMessageOf'. -/
def fnExactMessageOfUptoCard : Claim7 := { stood := { row := fnExactMessageOfUptoRow, standIns := [], harness := (true, "38aaf2fedfbddf007f4b6b5dc82464ac8a28f6a96871618f9759420f6975e03c"), looks := true }, kinds := [], alts := [], laidByText := true, laidKinds := [.data, .data, .data, .widerDeep], laidTests := true, laidLooks := .later }
def FnExactMessageOfUptoCardSaid : Prop := Claim7.holds Tryd.pinned (.plain (OpenSpec.upto fnExactMessageOfSpec)) fnExactMessageOfUptoCard

/-- THE SECOND FORM's CARD OF 'laws.FnExactParseMessage'. -/
def fnExactParseMessageUptoCard : Claim7 := { stood := { row := fnExactParseMessageUptoRow, standIns := [], harness := (true, "38aaf2fedfbddf007f4b6b5dc82464ac8a28f6a96871618f9759420f6975e03c"), looks := true }, kinds := [], alts := [], laidByText := true, laidKinds := [.data, .data, .data, .data, .sentinel, .sentinel, .widerDeep, .pinned], laidTests := true, laidLooks := .later }
def FnExactParseMessageUptoCardSaid : Prop := Claim7.holds Tryd.pinned (.plain (OpenSpec.upto fnExactParseMessageSpec)) fnExactParseMessageUptoCard
end Rows
end Go.Proofs.YtlpgcbkialcjcaaDoor

/-
  DERIVED. GIVEN WITH THE SEED: THE CARDS: each row of YtjabeiolgghfdaaDoorRows.lean that lists a variable, with what it lists TIED to the program's text (the seventh form; the later family's looks); each row that meets fmt, with fmt's text TOLD by the authors' own Lean function (tested against real Go, not proved from fmt's source: count such statements apart). THE CARD IS WHAT COUNTS. Prove the row's statement (the work); the ties are given (YtjabeiolgghfdaaDoorTie.lean); close each card by the builder's one call (the guide's Derived/Test/ToyasCard.lean, 'card_holds'). Laid BY PROGRAM, IN A SANDBOX (cutbox-door.mjs). By AI agents, Wed Nov 11 2026. No macro, syntax, notation, axiom, sorry.
-/
import Derived.Test.YtjabeiolgghfdaaDoorRows
import GoSem.ClaimSeven
namespace Go.Proofs.YtjabeiolgghfdaaDoor
namespace Rows

/-- THE TIED CARD OF 'laws.FnExactNoticeText'. -/
def fnExactNoticeTextCard : Claim7 := { stood := { row := fnExactNoticeTextRow, standIns := [], harness := (true, "2de4ddeab0a07d67c5ad98236e381b39afa14098f726f1c32abb4776c0508380"), looks := true }, kinds := [], alts := [], laidByText := true, laidKinds := [.data, .data, .data], laidTests := true, laidLooks := .later }
def FnExactNoticeTextCardSaid : Prop := Claim7.holds Tryd.pinned (.plain (OpenSpec.ofChange fnExactNoticeTextSpec)) fnExactNoticeTextCard

/-- THE TIED CARD OF 'laws.FnExactParseNotice'. -/
def fnExactParseNoticeCard : Claim7 := { stood := { row := fnExactParseNoticeRow, standIns := [], harness := (true, "2de4ddeab0a07d67c5ad98236e381b39afa14098f726f1c32abb4776c0508380"), looks := true }, kinds := [], alts := [], laidByText := true, laidKinds := [.data, .data, .data, .data, .sentinel, .sentinel, .pinned], laidTests := true, laidLooks := .later }
def FnExactParseNoticeCardSaid : Prop := Claim7.holds Tryd.pinned (.plain (OpenSpec.ofChange fnExactParseNoticeSpec)) fnExactParseNoticeCard

/-- THE SECOND FORM's CARD OF 'laws.FnExactNoticeText'. -/
def fnExactNoticeTextUptoCard : Claim7 := { stood := { row := fnExactNoticeTextUptoRow, standIns := [], harness := (true, "2de4ddeab0a07d67c5ad98236e381b39afa14098f726f1c32abb4776c0508380"), looks := true }, kinds := [], alts := [], laidByText := true, laidKinds := [.data, .data, .data], laidTests := true, laidLooks := .later }
def FnExactNoticeTextUptoCardSaid : Prop := Claim7.holds Tryd.pinned (.plain (OpenSpec.upto fnExactNoticeTextSpec)) fnExactNoticeTextUptoCard

/-- THE SECOND FORM's CARD OF 'laws.FnExactParseNotice'. -/
def fnExactParseNoticeUptoCard : Claim7 := { stood := { row := fnExactParseNoticeUptoRow, standIns := [], harness := (true, "2de4ddeab0a07d67c5ad98236e381b39afa14098f726f1c32abb4776c0508380"), looks := true }, kinds := [], alts := [], laidByText := true, laidKinds := [.data, .data, .data, .data, .sentinel, .sentinel, .pinned], laidTests := true, laidLooks := .later }
def FnExactParseNoticeUptoCardSaid : Prop := Claim7.holds Tryd.pinned (.plain (OpenSpec.upto fnExactParseNoticeSpec)) fnExactParseNoticeUptoCard
end Rows
end Go.Proofs.YtjabeiolgghfdaaDoor

/-
  DERIVED. GIVEN WITH THE SEED: THE CARDS: each row of YtllcmggmcogokaaDoorRows.lean that lists a variable, with what it lists TIED to the program's text (the seventh form; the later family's looks); each row that meets fmt, with fmt's text TOLD by the authors' own Lean function (tested against real Go, not proved from fmt's source: count such statements apart). THE CARD IS WHAT COUNTS. Prove the row's statement (the work); the ties are given (YtllcmggmcogokaaDoorTie.lean); close each card by the builder's one call (the guide's Derived/Test/ToyasCard.lean, 'card_holds'). Laid BY PROGRAM, IN A SANDBOX (cutbox-door.mjs). By AI agents, Wed Nov 11 2026. No macro, syntax, notation, axiom, sorry.
-/
import Derived.Test.YtllcmggmcogokaaDoorRows
import GoSem.ClaimSeven
namespace Go.Proofs.YtllcmggmcogokaaDoor
namespace Rows

/-- THE TIED CARD OF 'pedigreelaw04.TermMeans'. -/
def termMeansCard : Claim7 := { stood := { row := termMeansRow, standIns := [], harness := (true, "b304c2434985a540e682d3bfbce004b26da4349eeb18e476d79dde02b6ffbe2e"), looks := true }, kinds := [], alts := [], laidByText := true, laidKinds := [.data], laidTests := true, laidLooks := .later }
def TermMeansCardSaid : Prop := Claim7.holds Tryd.pinned (.plain (OpenSpec.ofChange termMeansSpec)) termMeansCard

/-- THE TIED CARD OF 'pedigreelaw04.TermLiterals'. -/
def termLiteralsCard : Claim7 := { stood := { row := termLiteralsRow, standIns := [], harness := (true, "b304c2434985a540e682d3bfbce004b26da4349eeb18e476d79dde02b6ffbe2e"), looks := true }, kinds := [], alts := [], laidByText := true, laidKinds := [.data, .data, .data], laidTests := true, laidLooks := .later }
def TermLiteralsCardSaid : Prop := Claim7.holds Tryd.pinned (.plain (OpenSpec.ofChange termLiteralsSpec)) termLiteralsCard

/-- THE TIED CARD OF 'pedigreelaw04.TermRules'. -/
def termRulesCard : Claim7 := { stood := { row := termRulesRow, standIns := [], harness := (true, "b304c2434985a540e682d3bfbce004b26da4349eeb18e476d79dde02b6ffbe2e"), looks := true }, kinds := [], alts := [], laidByText := true, laidKinds := [.data, .data, .data], laidTests := true, laidLooks := .later }
def TermRulesCardSaid : Prop := Claim7.holds Tryd.pinned (.plain (OpenSpec.ofChange termRulesSpec)) termRulesCard

/-- THE TIED CARD OF 'pedigreelaw04.TermTwice'. -/
def termTwiceCard : Claim7 := { stood := { row := termTwiceRow, standIns := [], harness := (true, "b304c2434985a540e682d3bfbce004b26da4349eeb18e476d79dde02b6ffbe2e"), looks := true }, kinds := [], alts := [], laidByText := true, laidKinds := [.data], laidTests := true, laidLooks := .later }
def TermTwiceCardSaid : Prop := Claim7.holds Tryd.pinned (.plain (OpenSpec.ofChange termTwiceSpec)) termTwiceCard

/-- THE TIED CARD OF 'pedigreelaw04.TermEvals'. -/
def termEvalsCard : Claim7 := { stood := { row := termEvalsRow, standIns := [], harness := (true, "b304c2434985a540e682d3bfbce004b26da4349eeb18e476d79dde02b6ffbe2e"), looks := true }, kinds := [], alts := [], laidByText := true, laidKinds := [.data, .data, .data, .data], laidTests := true, laidLooks := .later }
def TermEvalsCardSaid : Prop := Claim7.holds Tryd.pinned (.plain (OpenSpec.ofChange termEvalsSpec)) termEvalsCard

/-- THE SECOND FORM's CARD OF 'pedigreelaw04.TermMeans'. -/
def termMeansUptoCard : Claim7 := { stood := { row := termMeansUptoRow, standIns := [], harness := (true, "b304c2434985a540e682d3bfbce004b26da4349eeb18e476d79dde02b6ffbe2e"), looks := true }, kinds := [], alts := [], laidByText := true, laidKinds := [.data], laidTests := true, laidLooks := .later }
def TermMeansUptoCardSaid : Prop := Claim7.holds Tryd.pinned (.plain (OpenSpec.upto termMeansSpec)) termMeansUptoCard

/-- THE SECOND FORM's CARD OF 'pedigreelaw04.TermLiterals'. -/
def termLiteralsUptoCard : Claim7 := { stood := { row := termLiteralsUptoRow, standIns := [], harness := (true, "b304c2434985a540e682d3bfbce004b26da4349eeb18e476d79dde02b6ffbe2e"), looks := true }, kinds := [], alts := [], laidByText := true, laidKinds := [.data, .data, .data], laidTests := true, laidLooks := .later }
def TermLiteralsUptoCardSaid : Prop := Claim7.holds Tryd.pinned (.plain (OpenSpec.upto termLiteralsSpec)) termLiteralsUptoCard

/-- THE SECOND FORM's CARD OF 'pedigreelaw04.TermRules'. -/
def termRulesUptoCard : Claim7 := { stood := { row := termRulesUptoRow, standIns := [], harness := (true, "b304c2434985a540e682d3bfbce004b26da4349eeb18e476d79dde02b6ffbe2e"), looks := true }, kinds := [], alts := [], laidByText := true, laidKinds := [.data, .data, .data], laidTests := true, laidLooks := .later }
def TermRulesUptoCardSaid : Prop := Claim7.holds Tryd.pinned (.plain (OpenSpec.upto termRulesSpec)) termRulesUptoCard

/-- THE SECOND FORM's CARD OF 'pedigreelaw04.TermTwice'. -/
def termTwiceUptoCard : Claim7 := { stood := { row := termTwiceUptoRow, standIns := [], harness := (true, "b304c2434985a540e682d3bfbce004b26da4349eeb18e476d79dde02b6ffbe2e"), looks := true }, kinds := [], alts := [], laidByText := true, laidKinds := [.data], laidTests := true, laidLooks := .later }
def TermTwiceUptoCardSaid : Prop := Claim7.holds Tryd.pinned (.plain (OpenSpec.upto termTwiceSpec)) termTwiceUptoCard

/-- THE SECOND FORM's CARD OF 'pedigreelaw04.TermEvals'. -/
def termEvalsUptoCard : Claim7 := { stood := { row := termEvalsUptoRow, standIns := [], harness := (true, "b304c2434985a540e682d3bfbce004b26da4349eeb18e476d79dde02b6ffbe2e"), looks := true }, kinds := [], alts := [], laidByText := true, laidKinds := [.data, .data, .data, .data], laidTests := true, laidLooks := .later }
def TermEvalsUptoCardSaid : Prop := Claim7.holds Tryd.pinned (.plain (OpenSpec.upto termEvalsSpec)) termEvalsUptoCard
end Rows
end Go.Proofs.YtllcmggmcogokaaDoor

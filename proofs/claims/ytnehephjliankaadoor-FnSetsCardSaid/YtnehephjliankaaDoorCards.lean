/-
  DERIVED. GIVEN WITH THE SEED: THE CARDS: each row of YtnehephjliankaaDoorRows.lean that lists a variable, with what it lists TIED to the program's text (the seventh form; the later family's looks); each row that meets fmt, with fmt's text TOLD by the authors' own Lean function (tested against real Go, not proved from fmt's source: count such statements apart). THE CARD IS WHAT COUNTS. Prove the row's statement (the work); the ties are given (YtnehephjliankaaDoorTie.lean); close each card by the builder's one call (the guide's Derived/Test/ToyasCard.lean, 'card_holds'). Laid BY PROGRAM, IN A SANDBOX (cutbox-door.mjs). By AI agents, Wed Nov 11 2026. No macro, syntax, notation, axiom, sorry.
-/
import Derived.Test.YtnehephjliankaaDoorRows
import GoSem.ClaimSeven
namespace Go.Proofs.YtnehephjliankaaDoor
namespace Rows

/-- THE TIED CARD OF 'laws.FnExactSetText'. -/
def fnExactSetTextCard : Claim7 := { stood := { row := fnExactSetTextRow, standIns := [], harness := (true, "407d5f6416631fdacbda775ea6d9e335d53db2f485488ccc991fb393358226df"), looks := true }, kinds := [], alts := [], laidByText := true, laidKinds := [.data, .data, .data], laidTests := true, laidLooks := .later }
def FnExactSetTextCardSaid : Prop := Claim7.holds Tryd.pinned (.plain (OpenSpec.ofChange fnExactSetTextSpec)) fnExactSetTextCard

/-- THE TIED CARD OF 'laws.FnExactParseSet'. -/
def fnExactParseSetCard : Claim7 := { stood := { row := fnExactParseSetRow, standIns := [], harness := (true, "407d5f6416631fdacbda775ea6d9e335d53db2f485488ccc991fb393358226df"), looks := true }, kinds := [], alts := [], laidByText := true, laidKinds := [.data, .data, .data, .data, .sentinel, .sentinel, .pinned], laidTests := true, laidLooks := .later }
def FnExactParseSetCardSaid : Prop := Claim7.holds Tryd.pinned (.plain (OpenSpec.ofChange fnExactParseSetSpec)) fnExactParseSetCard

/-- THE TIED CARD OF 'laws.FnExactTermsText'. -/
def fnExactTermsTextCard : Claim7 := { stood := { row := fnExactTermsTextRow, standIns := [], harness := (true, "407d5f6416631fdacbda775ea6d9e335d53db2f485488ccc991fb393358226df"), looks := true }, kinds := [], alts := [], laidByText := true, laidKinds := [.data, .data, .data], laidTests := true, laidLooks := .later }
def FnExactTermsTextCardSaid : Prop := Claim7.holds Tryd.pinned (.plain (OpenSpec.ofChange fnExactTermsTextSpec)) fnExactTermsTextCard

/-- THE TIED CARD OF 'laws.FnSets'. -/
def fnSetsCard : Claim7 := { stood := { row := fnSetsRow, standIns := [], harness := (true, "407d5f6416631fdacbda775ea6d9e335d53db2f485488ccc991fb393358226df"), looks := true }, kinds := [], alts := [], laidByText := true, laidKinds := [.data, .data, .data, .data, .sentinel, .sentinel, .pinned], laidTests := true, laidLooks := .later }
def FnSetsCardSaid : Prop := Claim7.holds Tryd.pinned (.plain (OpenSpec.ofChange fnSetsSpec)) fnSetsCard

/-- THE SECOND FORM's CARD OF 'laws.FnExactSetText'. -/
def fnExactSetTextUptoCard : Claim7 := { stood := { row := fnExactSetTextUptoRow, standIns := [], harness := (true, "407d5f6416631fdacbda775ea6d9e335d53db2f485488ccc991fb393358226df"), looks := true }, kinds := [], alts := [], laidByText := true, laidKinds := [.data, .data, .data], laidTests := true, laidLooks := .later }
def FnExactSetTextUptoCardSaid : Prop := Claim7.holds Tryd.pinned (.plain (OpenSpec.upto fnExactSetTextSpec)) fnExactSetTextUptoCard

/-- THE SECOND FORM's CARD OF 'laws.FnExactParseSet'. -/
def fnExactParseSetUptoCard : Claim7 := { stood := { row := fnExactParseSetUptoRow, standIns := [], harness := (true, "407d5f6416631fdacbda775ea6d9e335d53db2f485488ccc991fb393358226df"), looks := true }, kinds := [], alts := [], laidByText := true, laidKinds := [.data, .data, .data, .data, .sentinel, .sentinel, .pinned], laidTests := true, laidLooks := .later }
def FnExactParseSetUptoCardSaid : Prop := Claim7.holds Tryd.pinned (.plain (OpenSpec.upto fnExactParseSetSpec)) fnExactParseSetUptoCard

/-- THE SECOND FORM's CARD OF 'laws.FnExactTermsText'. -/
def fnExactTermsTextUptoCard : Claim7 := { stood := { row := fnExactTermsTextUptoRow, standIns := [], harness := (true, "407d5f6416631fdacbda775ea6d9e335d53db2f485488ccc991fb393358226df"), looks := true }, kinds := [], alts := [], laidByText := true, laidKinds := [.data, .data, .data], laidTests := true, laidLooks := .later }
def FnExactTermsTextUptoCardSaid : Prop := Claim7.holds Tryd.pinned (.plain (OpenSpec.upto fnExactTermsTextSpec)) fnExactTermsTextUptoCard

/-- THE SECOND FORM's CARD OF 'laws.FnSets'. -/
def fnSetsUptoCard : Claim7 := { stood := { row := fnSetsUptoRow, standIns := [], harness := (true, "407d5f6416631fdacbda775ea6d9e335d53db2f485488ccc991fb393358226df"), looks := true }, kinds := [], alts := [], laidByText := true, laidKinds := [.data, .data, .data, .data, .sentinel, .sentinel, .pinned], laidTests := true, laidLooks := .later }
def FnSetsUptoCardSaid : Prop := Claim7.holds Tryd.pinned (.plain (OpenSpec.upto fnSetsSpec)) fnSetsUptoCard
end Rows
end Go.Proofs.YtnehephjliankaaDoor

/-
  DERIVED. GIVEN WITH THE SEED: THE CARDS: each row of YtjmldnpdfnklcaaDoorRows.lean that lists a variable, with what it lists TIED to the program's text (the seventh form; the later family's looks); each row that meets fmt, with fmt's text TOLD by the authors' own Lean function (tested against real Go, not proved from fmt's source: count such statements apart). THE CARD IS WHAT COUNTS. Prove the row's statement (the work); the ties are given (YtjmldnpdfnklcaaDoorTie.lean); close each card by the builder's one call (the guide's Derived/Test/ToyasCard.lean, 'card_holds'). Laid BY PROGRAM, IN A SANDBOX (cutbox-door.mjs). By AI agents, Wed Nov 11 2026. No macro, syntax, notation, axiom, sorry.
-/
import Derived.Test.YtjmldnpdfnklcaaDoorRows
import GoSem.ClaimSeven
namespace Go.Proofs.YtjmldnpdfnklcaaDoor
namespace Rows

/-- THE TIED CARD OF 'chapletlaw17.ProgramJoins'. -/
def programJoinsCard : Claim7 := { stood := { row := programJoinsRow, standIns := [], harness := (true, "1f05bdb529c6bb524b83a477532a9c0ee0fc51c80023e6a2aff8348c75bd09a2"), looks := true }, kinds := [], alts := [], laidByText := true, laidKinds := [.data, .data, .data, .data, .sentinel, .sentinel, .pinned], laidTests := true, laidLooks := .later }
def ProgramJoinsCardSaid : Prop := Claim7.holds Tryd.pinned (.plain (OpenSpec.ofChange programJoinsSpec)) programJoinsCard

/-- THE TIED CARD OF 'chapletlaw17.ProgramNumbers'. -/
def programNumbersCard : Claim7 := { stood := { row := programNumbersRow, standIns := [], harness := (true, "1f05bdb529c6bb524b83a477532a9c0ee0fc51c80023e6a2aff8348c75bd09a2"), looks := true }, kinds := [], alts := [], laidByText := true, laidKinds := [.data, .data, .data, .data, .sentinel, .sentinel, .pinned], laidTests := true, laidLooks := .later }
def ProgramNumbersCardSaid : Prop := Claim7.holds Tryd.pinned (.plain (OpenSpec.ofChange programNumbersSpec)) programNumbersCard

/-- THE TIED CARD OF 'chapletlaw17.ProgramParses'. -/
def programParsesCard : Claim7 := { stood := { row := programParsesRow, standIns := [], harness := (true, "1f05bdb529c6bb524b83a477532a9c0ee0fc51c80023e6a2aff8348c75bd09a2"), looks := true }, kinds := [], alts := [], laidByText := true, laidKinds := [.data, .data, .data, .data, .sentinel, .sentinel, .pinned], laidTests := true, laidLooks := .later }
def ProgramParsesCardSaid : Prop := Claim7.holds Tryd.pinned (.plain (OpenSpec.ofChange programParsesSpec)) programParsesCard

/-- THE TIED CARD OF 'chapletlaw22.ScriptForms'. -/
def scriptFormsCard : Claim7 := { stood := { row := scriptFormsRow, standIns := [], harness := (true, "1f05bdb529c6bb524b83a477532a9c0ee0fc51c80023e6a2aff8348c75bd09a2"), looks := true }, kinds := [], alts := [], laidByText := true, laidKinds := [.data, .data, .data, .data, .sentinel, .sentinel, .pinned], laidTests := true, laidLooks := .later }
def ScriptFormsCardSaid : Prop := Claim7.holds Tryd.pinned (.plain (OpenSpec.ofChange scriptFormsSpec)) scriptFormsCard

/-- THE TIED CARD OF 'chapletlaw22.ScriptTexts'. -/
def scriptTextsCard : Claim7 := { stood := { row := scriptTextsRow, standIns := [], harness := (true, "1f05bdb529c6bb524b83a477532a9c0ee0fc51c80023e6a2aff8348c75bd09a2"), looks := true }, kinds := [], alts := [], laidByText := true, laidKinds := [.data, .data, .data, .data, .sentinel, .sentinel, .pinned], laidTests := true, laidLooks := .later }
def ScriptTextsCardSaid : Prop := Claim7.holds Tryd.pinned (.plain (OpenSpec.ofChange scriptTextsSpec)) scriptTextsCard

/-- THE TIED CARD OF 'chapletlaw17.ProgramForms'. -/
def programFormsCard : Claim7 := { stood := { row := programFormsRow, standIns := [], harness := (true, "1f05bdb529c6bb524b83a477532a9c0ee0fc51c80023e6a2aff8348c75bd09a2"), looks := true }, kinds := [], alts := [], laidByText := true, laidKinds := [.data, .data, .data, .data, .sentinel, .sentinel, .pinned], laidTests := true, laidLooks := .later }
def ProgramFormsCardSaid : Prop := Claim7.holds Tryd.pinned (.plain (OpenSpec.ofChange programFormsSpec)) programFormsCard

/-- THE TIED CARD OF 'chapletlaw17.ProgramPrints'. -/
def programPrintsCard : Claim7 := { stood := { row := programPrintsRow, standIns := [], harness := (true, "1f05bdb529c6bb524b83a477532a9c0ee0fc51c80023e6a2aff8348c75bd09a2"), looks := true }, kinds := [], alts := [], laidByText := true, laidKinds := [.data, .data, .data, .data, .sentinel, .sentinel, .pinned], laidTests := true, laidLooks := .later }
def ProgramPrintsCardSaid : Prop := Claim7.holds Tryd.pinned (.plain (OpenSpec.ofChange programPrintsSpec)) programPrintsCard

/-- THE TIED CARD OF 'chapletlaw17.ProgramBack'. -/
def programBackCard : Claim7 := { stood := { row := programBackRow, standIns := [], harness := (true, "1f05bdb529c6bb524b83a477532a9c0ee0fc51c80023e6a2aff8348c75bd09a2"), looks := true }, kinds := [], alts := [], laidByText := true, laidKinds := [.data, .data, .data, .data, .sentinel, .sentinel, .pinned], laidTests := true, laidLooks := .later }
def ProgramBackCardSaid : Prop := Claim7.holds Tryd.pinned (.plain (OpenSpec.ofChange programBackSpec)) programBackCard

/-- THE SECOND FORM's CARD OF 'chapletlaw17.ProgramJoins'. -/
def programJoinsUptoCard : Claim7 := { stood := { row := programJoinsUptoRow, standIns := [], harness := (true, "1f05bdb529c6bb524b83a477532a9c0ee0fc51c80023e6a2aff8348c75bd09a2"), looks := true }, kinds := [], alts := [], laidByText := true, laidKinds := [.data, .data, .data, .data, .sentinel, .sentinel, .pinned], laidTests := true, laidLooks := .later }
def ProgramJoinsUptoCardSaid : Prop := Claim7.holds Tryd.pinned (.plain (OpenSpec.upto programJoinsSpec)) programJoinsUptoCard

/-- THE SECOND FORM's CARD OF 'chapletlaw17.ProgramNumbers'. -/
def programNumbersUptoCard : Claim7 := { stood := { row := programNumbersUptoRow, standIns := [], harness := (true, "1f05bdb529c6bb524b83a477532a9c0ee0fc51c80023e6a2aff8348c75bd09a2"), looks := true }, kinds := [], alts := [], laidByText := true, laidKinds := [.data, .data, .data, .data, .sentinel, .sentinel, .pinned], laidTests := true, laidLooks := .later }
def ProgramNumbersUptoCardSaid : Prop := Claim7.holds Tryd.pinned (.plain (OpenSpec.upto programNumbersSpec)) programNumbersUptoCard

/-- THE SECOND FORM's CARD OF 'chapletlaw17.ProgramParses'. -/
def programParsesUptoCard : Claim7 := { stood := { row := programParsesUptoRow, standIns := [], harness := (true, "1f05bdb529c6bb524b83a477532a9c0ee0fc51c80023e6a2aff8348c75bd09a2"), looks := true }, kinds := [], alts := [], laidByText := true, laidKinds := [.data, .data, .data, .data, .sentinel, .sentinel, .pinned], laidTests := true, laidLooks := .later }
def ProgramParsesUptoCardSaid : Prop := Claim7.holds Tryd.pinned (.plain (OpenSpec.upto programParsesSpec)) programParsesUptoCard

/-- THE SECOND FORM's CARD OF 'chapletlaw22.ScriptForms'. -/
def scriptFormsUptoCard : Claim7 := { stood := { row := scriptFormsUptoRow, standIns := [], harness := (true, "1f05bdb529c6bb524b83a477532a9c0ee0fc51c80023e6a2aff8348c75bd09a2"), looks := true }, kinds := [], alts := [], laidByText := true, laidKinds := [.data, .data, .data, .data, .sentinel, .sentinel, .pinned], laidTests := true, laidLooks := .later }
def ScriptFormsUptoCardSaid : Prop := Claim7.holds Tryd.pinned (.plain (OpenSpec.upto scriptFormsSpec)) scriptFormsUptoCard

/-- THE SECOND FORM's CARD OF 'chapletlaw22.ScriptTexts'. -/
def scriptTextsUptoCard : Claim7 := { stood := { row := scriptTextsUptoRow, standIns := [], harness := (true, "1f05bdb529c6bb524b83a477532a9c0ee0fc51c80023e6a2aff8348c75bd09a2"), looks := true }, kinds := [], alts := [], laidByText := true, laidKinds := [.data, .data, .data, .data, .sentinel, .sentinel, .pinned], laidTests := true, laidLooks := .later }
def ScriptTextsUptoCardSaid : Prop := Claim7.holds Tryd.pinned (.plain (OpenSpec.upto scriptTextsSpec)) scriptTextsUptoCard

/-- THE SECOND FORM's CARD OF 'chapletlaw17.ProgramForms'. -/
def programFormsUptoCard : Claim7 := { stood := { row := programFormsUptoRow, standIns := [], harness := (true, "1f05bdb529c6bb524b83a477532a9c0ee0fc51c80023e6a2aff8348c75bd09a2"), looks := true }, kinds := [], alts := [], laidByText := true, laidKinds := [.data, .data, .data, .data, .sentinel, .sentinel, .pinned], laidTests := true, laidLooks := .later }
def ProgramFormsUptoCardSaid : Prop := Claim7.holds Tryd.pinned (.plain (OpenSpec.upto programFormsSpec)) programFormsUptoCard

/-- THE SECOND FORM's CARD OF 'chapletlaw17.ProgramPrints'. -/
def programPrintsUptoCard : Claim7 := { stood := { row := programPrintsUptoRow, standIns := [], harness := (true, "1f05bdb529c6bb524b83a477532a9c0ee0fc51c80023e6a2aff8348c75bd09a2"), looks := true }, kinds := [], alts := [], laidByText := true, laidKinds := [.data, .data, .data, .data, .sentinel, .sentinel, .pinned], laidTests := true, laidLooks := .later }
def ProgramPrintsUptoCardSaid : Prop := Claim7.holds Tryd.pinned (.plain (OpenSpec.upto programPrintsSpec)) programPrintsUptoCard

/-- THE SECOND FORM's CARD OF 'chapletlaw17.ProgramBack'. -/
def programBackUptoCard : Claim7 := { stood := { row := programBackUptoRow, standIns := [], harness := (true, "1f05bdb529c6bb524b83a477532a9c0ee0fc51c80023e6a2aff8348c75bd09a2"), looks := true }, kinds := [], alts := [], laidByText := true, laidKinds := [.data, .data, .data, .data, .sentinel, .sentinel, .pinned], laidTests := true, laidLooks := .later }
def ProgramBackUptoCardSaid : Prop := Claim7.holds Tryd.pinned (.plain (OpenSpec.upto programBackSpec)) programBackUptoCard
end Rows
end Go.Proofs.YtjmldnpdfnklcaaDoor

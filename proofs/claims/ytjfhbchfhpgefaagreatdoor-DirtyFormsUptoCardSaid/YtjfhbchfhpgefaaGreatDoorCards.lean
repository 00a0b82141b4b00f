/-
  DERIVED. GIVEN WITH THE SEED: THE CARDS: each row of YtjfhbchfhpgefaaGreatDoorRows.lean that lists a variable, with what it lists TIED to the program's text (the seventh form; the later family's looks); each row that meets fmt, with fmt's text TOLD by the authors' own Lean function (tested against real Go, not proved from fmt's source: count such statements apart). THE CARD IS WHAT COUNTS. Prove the row's statement (the work); the ties are given (YtjfhbchfhpgefaaGreatDoorTie.lean); close each card by the builder's one call (the guide's Derived/Test/ToyasCard.lean, 'card_holds'). Laid BY PROGRAM, IN A SANDBOX (cutbox-door.mjs). By AI agents, Wed Nov 11 2026. No macro, syntax, notation, axiom, sorry.
-/
import Derived.Test.YtjfhbchfhpgefaaGreatDoorRows
import GoSem.ClaimSeven
namespace Go.Proofs.YtjfhbchfhpgefaaGreatDoor
namespace Rows

/-- THE TIED CARD OF 'cruciblelaw19.Dirts'. -/
def dirtsCard : Claim7 := { stood := { row := dirtsRow, standIns := [], harness := (true, "1f68851fe1cc8d7ea127e16641679064928eda0a019c097ad92e633fd23fd904"), looks := false }, kinds := [], alts := [], laidByText := true, laidKinds := [.data, .pinned], laidTests := true, laidLooks := .later }
def DirtsCardSaid : Prop := Claim7.holds Tryz.pinned (.plain (OpenSpec.ofChange dirtsSpec)) dirtsCard

/-- THE TIED CARD OF 'cruciblelaw19.DirtyOne'. -/
def dirtyOneCard : Claim7 := { stood := { row := dirtyOneRow, standIns := [], harness := (true, "1f68851fe1cc8d7ea127e16641679064928eda0a019c097ad92e633fd23fd904"), looks := false }, kinds := [], alts := [], laidByText := true, laidKinds := [.data, .pinned], laidTests := true, laidLooks := .later }
def DirtyOneCardSaid : Prop := Claim7.holds Tryz.pinned (.plain (OpenSpec.ofChange dirtyOneSpec)) dirtyOneCard

/-- THE TIED CARD OF 'cruciblelaw19.DirtyDown'. -/
def dirtyDownCard : Claim7 := { stood := { row := dirtyDownRow, standIns := [], harness := (true, "1f68851fe1cc8d7ea127e16641679064928eda0a019c097ad92e633fd23fd904"), looks := false }, kinds := [], alts := [], laidByText := true, laidKinds := [.data, .pinned], laidTests := true, laidLooks := .later }
def DirtyDownCardSaid : Prop := Claim7.holds Tryz.pinned (.plain (OpenSpec.ofChange dirtyDownSpec)) dirtyDownCard

/-- THE TIED CARD OF 'cruciblelaw19.DirtyForms'. -/
def dirtyFormsCard : Claim7 := { stood := { row := dirtyFormsRow, standIns := [], harness := (true, "1f68851fe1cc8d7ea127e16641679064928eda0a019c097ad92e633fd23fd904"), looks := false }, kinds := [], alts := [], laidByText := true, laidKinds := [.data, .pinned], laidTests := true, laidLooks := .later }
def DirtyFormsCardSaid : Prop := Claim7.holds Tryz.pinned (.plain (OpenSpec.ofChange dirtyFormsSpec)) dirtyFormsCard

/-- THE TIED CARD OF 'cruciblelaw19.DirtyEmpty'. -/
def dirtyEmptyCard : Claim7 := { stood := { row := dirtyEmptyRow, standIns := [], harness := (true, "1f68851fe1cc8d7ea127e16641679064928eda0a019c097ad92e633fd23fd904"), looks := false }, kinds := [], alts := [], laidByText := true, laidKinds := [.data, .pinned], laidTests := true, laidLooks := .later }
def DirtyEmptyCardSaid : Prop := Claim7.holds Tryz.pinned (.plain (OpenSpec.ofChange dirtyEmptySpec)) dirtyEmptyCard

/-- THE TIED CARD OF 'cruciblelaw19.DirtyOwn'. -/
def dirtyOwnCard : Claim7 := { stood := { row := dirtyOwnRow, standIns := [], harness := (true, "1f68851fe1cc8d7ea127e16641679064928eda0a019c097ad92e633fd23fd904"), looks := false }, kinds := [], alts := [], laidByText := true, laidKinds := [.data, .pinned], laidTests := true, laidLooks := .later }
def DirtyOwnCardSaid : Prop := Claim7.holds Tryz.pinned (.plain (OpenSpec.ofChange dirtyOwnSpec)) dirtyOwnCard

/-- THE TIED CARD OF 'cruciblelaw19.DirtyEdit'. -/
def dirtyEditCard : Claim7 := { stood := { row := dirtyEditRow, standIns := [], harness := (true, "1f68851fe1cc8d7ea127e16641679064928eda0a019c097ad92e633fd23fd904"), looks := false }, kinds := [], alts := [], laidByText := true, laidKinds := [.data, .pinned], laidTests := true, laidLooks := .later }
def DirtyEditCardSaid : Prop := Claim7.holds Tryz.pinned (.plain (OpenSpec.ofChange dirtyEditSpec)) dirtyEditCard

/-- THE TIED CARD OF 'cruciblelaw25.Toolses'. -/
def toolsesCard : Claim7 := { stood := { row := toolsesRow, standIns := [], harness := (true, "1f68851fe1cc8d7ea127e16641679064928eda0a019c097ad92e633fd23fd904"), looks := false }, kinds := [], alts := [], laidByText := true, laidKinds := [.data, .pinned], laidTests := true, laidLooks := .later }
def ToolsesCardSaid : Prop := Claim7.holds Tryz.pinned (.plain (OpenSpec.ofChange toolsesSpec)) toolsesCard

/-- THE TIED CARD OF 'cruciblelaw25.ToolForms'. -/
def toolFormsCard : Claim7 := { stood := { row := toolFormsRow, standIns := [], harness := (true, "1f68851fe1cc8d7ea127e16641679064928eda0a019c097ad92e633fd23fd904"), looks := false }, kinds := [], alts := [], laidByText := true, laidKinds := [.data, .pinned], laidTests := true, laidLooks := .later }
def ToolFormsCardSaid : Prop := Claim7.holds Tryz.pinned (.plain (OpenSpec.ofChange toolFormsSpec)) toolFormsCard

/-- THE TIED CARD OF 'cruciblelaw25.CleanMade'. -/
def cleanMadeCard : Claim7 := { stood := { row := cleanMadeRow, standIns := [], harness := (true, "1f68851fe1cc8d7ea127e16641679064928eda0a019c097ad92e633fd23fd904"), looks := false }, kinds := [], alts := [], laidByText := true, laidKinds := [.data, .pinned], laidTests := true, laidLooks := .later }
def CleanMadeCardSaid : Prop := Claim7.holds Tryz.pinned (.plain (OpenSpec.ofChange cleanMadeSpec)) cleanMadeCard

/-- THE TIED CARD OF 'cruciblelaw25.DeadOnly'. -/
def deadOnlyCard : Claim7 := { stood := { row := deadOnlyRow, standIns := [], harness := (true, "1f68851fe1cc8d7ea127e16641679064928eda0a019c097ad92e633fd23fd904"), looks := false }, kinds := [], alts := [], laidByText := true, laidKinds := [.data, .pinned], laidTests := true, laidLooks := .later }
def DeadOnlyCardSaid : Prop := Claim7.holds Tryz.pinned (.plain (OpenSpec.ofChange deadOnlySpec)) deadOnlyCard

/-- THE TIED CARD OF 'cruciblelaw25.CleanTwice'. -/
def cleanTwiceCard : Claim7 := { stood := { row := cleanTwiceRow, standIns := [], harness := (true, "1f68851fe1cc8d7ea127e16641679064928eda0a019c097ad92e633fd23fd904"), looks := false }, kinds := [], alts := [], laidByText := true, laidKinds := [.data, .pinned], laidTests := true, laidLooks := .later }
def CleanTwiceCardSaid : Prop := Claim7.holds Tryz.pinned (.plain (OpenSpec.ofChange cleanTwiceSpec)) cleanTwiceCard

/-- THE TIED CARD OF 'cruciblelaw25.CleanNone'. -/
def cleanNoneCard : Claim7 := { stood := { row := cleanNoneRow, standIns := [], harness := (true, "1f68851fe1cc8d7ea127e16641679064928eda0a019c097ad92e633fd23fd904"), looks := false }, kinds := [], alts := [], laidByText := true, laidKinds := [.data, .pinned], laidTests := true, laidLooks := .later }
def CleanNoneCardSaid : Prop := Claim7.holds Tryz.pinned (.plain (OpenSpec.ofChange cleanNoneSpec)) cleanNoneCard

/-- THE SECOND FORM's CARD OF 'cruciblelaw19.Dirts'. -/
def dirtsUptoCard : Claim7 := { stood := { row := dirtsUptoRow, standIns := [], harness := (true, "1f68851fe1cc8d7ea127e16641679064928eda0a019c097ad92e633fd23fd904"), looks := false }, kinds := [], alts := [], laidByText := true, laidKinds := [.data, .pinned], laidTests := true, laidLooks := .later }
def DirtsUptoCardSaid : Prop := Claim7.holds Tryz.pinned (.plain (OpenSpec.upto dirtsSpec)) dirtsUptoCard

/-- THE SECOND FORM's CARD OF 'cruciblelaw19.DirtyOne'. -/
def dirtyOneUptoCard : Claim7 := { stood := { row := dirtyOneUptoRow, standIns := [], harness := (true, "1f68851fe1cc8d7ea127e16641679064928eda0a019c097ad92e633fd23fd904"), looks := false }, kinds := [], alts := [], laidByText := true, laidKinds := [.data, .pinned], laidTests := true, laidLooks := .later }
def DirtyOneUptoCardSaid : Prop := Claim7.holds Tryz.pinned (.plain (OpenSpec.upto dirtyOneSpec)) dirtyOneUptoCard

/-- THE SECOND FORM's CARD OF 'cruciblelaw19.DirtyDown'. -/
def dirtyDownUptoCard : Claim7 := { stood := { row := dirtyDownUptoRow, standIns := [], harness := (true, "1f68851fe1cc8d7ea127e16641679064928eda0a019c097ad92e633fd23fd904"), looks := false }, kinds := [], alts := [], laidByText := true, laidKinds := [.data, .pinned], laidTests := true, laidLooks := .later }
def DirtyDownUptoCardSaid : Prop := Claim7.holds Tryz.pinned (.plain (OpenSpec.upto dirtyDownSpec)) dirtyDownUptoCard

/-- THE SECOND FORM's CARD OF 'cruciblelaw19.DirtyForms'. -/
def dirtyFormsUptoCard : Claim7 := { stood := { row := dirtyFormsUptoRow, standIns := [], harness := (true, "1f68851fe1cc8d7ea127e16641679064928eda0a019c097ad92e633fd23fd904"), looks := false }, kinds := [], alts := [], laidByText := true, laidKinds := [.data, .pinned], laidTests := true, laidLooks := .later }
def DirtyFormsUptoCardSaid : Prop := Claim7.holds Tryz.pinned (.plain (OpenSpec.upto dirtyFormsSpec)) dirtyFormsUptoCard

/-- THE SECOND FORM's CARD OF 'cruciblelaw19.DirtyEmpty'. -/
def dirtyEmptyUptoCard : Claim7 := { stood := { row := dirtyEmptyUptoRow, standIns := [], harness := (true, "1f68851fe1cc8d7ea127e16641679064928eda0a019c097ad92e633fd23fd904"), looks := false }, kinds := [], alts := [], laidByText := true, laidKinds := [.data, .pinned], laidTests := true, laidLooks := .later }
def DirtyEmptyUptoCardSaid : Prop := Claim7.holds Tryz.pinned (.plain (OpenSpec.upto dirtyEmptySpec)) dirtyEmptyUptoCard

/-- THE SECOND FORM's CARD OF 'cruciblelaw19.DirtyOwn'. -/
def dirtyOwnUptoCard : Claim7 := { stood := { row := dirtyOwnUptoRow, standIns := [], harness := (true, "1f68851fe1cc8d7ea127e16641679064928eda0a019c097ad92e633fd23fd904"), looks := false }, kinds := [], alts := [], laidByText := true, laidKinds := [.data, .pinned], laidTests := true, laidLooks := .later }
def DirtyOwnUptoCardSaid : Prop := Claim7.holds Tryz.pinned (.plain (OpenSpec.upto dirtyOwnSpec)) dirtyOwnUptoCard

/-- THE SECOND FORM's CARD OF 'cruciblelaw19.DirtyEdit'. -/
def dirtyEditUptoCard : Claim7 := { stood := { row := dirtyEditUptoRow, standIns := [], harness := (true, "1f68851fe1cc8d7ea127e16641679064928eda0a019c097ad92e633fd23fd904"), looks := false }, kinds := [], alts := [], laidByText := true, laidKinds := [.data, .pinned], laidTests := true, laidLooks := .later }
def DirtyEditUptoCardSaid : Prop := Claim7.holds Tryz.pinned (.plain (OpenSpec.upto dirtyEditSpec)) dirtyEditUptoCard

/-- THE SECOND FORM's CARD OF 'cruciblelaw25.Toolses'. -/
def toolsesUptoCard : Claim7 := { stood := { row := toolsesUptoRow, standIns := [], harness := (true, "1f68851fe1cc8d7ea127e16641679064928eda0a019c097ad92e633fd23fd904"), looks := false }, kinds := [], alts := [], laidByText := true, laidKinds := [.data, .pinned], laidTests := true, laidLooks := .later }
def ToolsesUptoCardSaid : Prop := Claim7.holds Tryz.pinned (.plain (OpenSpec.upto toolsesSpec)) toolsesUptoCard

/-- THE SECOND FORM's CARD OF 'cruciblelaw25.ToolForms'. -/
def toolFormsUptoCard : Claim7 := { stood := { row := toolFormsUptoRow, standIns := [], harness := (true, "1f68851fe1cc8d7ea127e16641679064928eda0a019c097ad92e633fd23fd904"), looks := false }, kinds := [], alts := [], laidByText := true, laidKinds := [.data, .pinned], laidTests := true, laidLooks := .later }
def ToolFormsUptoCardSaid : Prop := Claim7.holds Tryz.pinned (.plain (OpenSpec.upto toolFormsSpec)) toolFormsUptoCard

/-- THE SECOND FORM's CARD OF 'cruciblelaw25.CleanMade'. -/
def cleanMadeUptoCard : Claim7 := { stood := { row := cleanMadeUptoRow, standIns := [], harness := (true, "1f68851fe1cc8d7ea127e16641679064928eda0a019c097ad92e633fd23fd904"), looks := false }, kinds := [], alts := [], laidByText := true, laidKinds := [.data, .pinned], laidTests := true, laidLooks := .later }
def CleanMadeUptoCardSaid : Prop := Claim7.holds Tryz.pinned (.plain (OpenSpec.upto cleanMadeSpec)) cleanMadeUptoCard

/-- THE SECOND FORM's CARD OF 'cruciblelaw25.DeadOnly'. -/
def deadOnlyUptoCard : Claim7 := { stood := { row := deadOnlyUptoRow, standIns := [], harness := (true, "1f68851fe1cc8d7ea127e16641679064928eda0a019c097ad92e633fd23fd904"), looks := false }, kinds := [], alts := [], laidByText := true, laidKinds := [.data, .pinned], laidTests := true, laidLooks := .later }
def DeadOnlyUptoCardSaid : Prop := Claim7.holds Tryz.pinned (.plain (OpenSpec.upto deadOnlySpec)) deadOnlyUptoCard

/-- THE SECOND FORM's CARD OF 'cruciblelaw25.CleanTwice'. -/
def cleanTwiceUptoCard : Claim7 := { stood := { row := cleanTwiceUptoRow, standIns := [], harness := (true, "1f68851fe1cc8d7ea127e16641679064928eda0a019c097ad92e633fd23fd904"), looks := false }, kinds := [], alts := [], laidByText := true, laidKinds := [.data, .pinned], laidTests := true, laidLooks := .later }
def CleanTwiceUptoCardSaid : Prop := Claim7.holds Tryz.pinned (.plain (OpenSpec.upto cleanTwiceSpec)) cleanTwiceUptoCard

/-- THE SECOND FORM's CARD OF 'cruciblelaw25.CleanNone'. -/
def cleanNoneUptoCard : Claim7 := { stood := { row := cleanNoneUptoRow, standIns := [], harness := (true, "1f68851fe1cc8d7ea127e16641679064928eda0a019c097ad92e633fd23fd904"), looks := false }, kinds := [], alts := [], laidByText := true, laidKinds := [.data, .pinned], laidTests := true, laidLooks := .later }
def CleanNoneUptoCardSaid : Prop := Claim7.holds Tryz.pinned (.plain (OpenSpec.upto cleanNoneSpec)) cleanNoneUptoCard
end Rows
end Go.Proofs.YtjfhbchfhpgefaaGreatDoor

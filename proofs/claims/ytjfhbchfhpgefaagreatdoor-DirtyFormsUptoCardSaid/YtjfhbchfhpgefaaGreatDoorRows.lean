/-
  NARROWER THAN 'FOR EVERY INPUT', by the rows' own cells (each row's printed sentence says how): Dirts: laid · DirtyOne: laid · DirtyDown: laid · DirtyForms: laid · DirtyEmpty: laid · DirtyOwn: laid · DirtyEdit: laid · Toolses: laid · ToolForms: laid · CleanMade: laid · DeadOnly: laid · CleanTwice: laid · CleanNone: laid.
  DERIVED. THE GIVEN ROWS OF THIS SEAT. 13 by the template 'for every input the law returns true; each argument reads behind the call as it read before'; 0 by the template 'total and deterministic' (their statements: YtjfhbchfhpgefaaGreatDoorTotals.lean).
  GIVEN WITH THE SEED: the statements are not yours to turn. If you find one false, say at which input.
  Laid BY PROGRAM, IN A SANDBOX (cutbox-rows.mjs): the forced cells as the released guide's own fill.sh prints them over the translation ef718a809fe45434… (all of the seat's roots in one cut). By AI agents, Wed Nov 11 2026. No macro, syntax, notation, axiom, sorry.
-/
import Derived.Test.YtjfhbchfhpgefaaGreatDoorChecked
import GoSem.PinnedTables
import GoSem.Claim
import GoSem.ClaimJoined
import GoSem.ClaimMapViews
import Derived.JoinedTies
import Derived.KernelRfl
namespace Go.Proofs.YtjfhbchfhpgefaaGreatDoor
/- THE CELL 'sum', in the pinned program and in every row, IS THE sha256 OF THE DUMP (.gsa) THAT YtjfhbchfhpgefaaGreatDoorProg.lean LOADS. Nothing in Lean hashes anything: it is a label: what it is worth is what the hold of that sum in a sandbox is worth. -/
noncomputable def Tryz.pinned : Pinned := { name := "ytjfhbchfhpgefaagreatdoor", sum := "ef718a809fe45434d16cc3644dd92e2d51e0d21d6ecc4f48d2368a58c87367bc", checked := Tryz.checked }
namespace Rows
def none {H : Type} : Left H := { results := [], args := [] }

/- WHAT THE LISTED PACKAGE-LEVEL VARIABLES READ AS WHEN THE CALL BEGINS. Each datum BY PROGRAM (the guide's laid-datum.mjs) off the statement by which the dump's own 'gosem.cut.vars' lays the variable. In a bare row this is a premise. The card (YtjfhbchfhpgefaaGreatDoorCards.lean) ties it to the program's text. -/
def laid_unicode_utf8_acceptRanges {H : Type} : DataW H := .agg [.agg [.lit (.int .u8 128), .lit (.int .u8 191)], .agg [.lit (.int .u8 160), .lit (.int .u8 191)], .agg [.lit (.int .u8 128), .lit (.int .u8 159)], .agg [.lit (.int .u8 144), .lit (.int .u8 191)], .agg [.lit (.int .u8 128), .lit (.int .u8 143)], .agg [.lit (.int .u8 0), .lit (.int .u8 0)], .agg [.lit (.int .u8 0), .lit (.int .u8 0)], .agg [.lit (.int .u8 0), .lit (.int .u8 0)], .agg [.lit (.int .u8 0), .lit (.int .u8 0)], .agg [.lit (.int .u8 0), .lit (.int .u8 0)], .agg [.lit (.int .u8 0), .lit (.int .u8 0)], .agg [.lit (.int .u8 0), .lit (.int .u8 0)], .agg [.lit (.int .u8 0), .lit (.int .u8 0)], .agg [.lit (.int .u8 0), .lit (.int .u8 0)], .agg [.lit (.int .u8 0), .lit (.int .u8 0)], .agg [.lit (.int .u8 0), .lit (.int .u8 0)]]
/-- One of Go's own tables, pinned by name: the form's constant. -/
def laid_unicode_utf8_first : DataW Unit := Go.Pinned.utf8First

/-- 'cruciblelaw19.Dirts': WHATEVER THE INPUT: true; the input reads as it did. -/
def dirtsSpec : ChangeSpec := { name := "dirts", fn := fun _ => fun
  | [d1, d2] => { results := [.lit (.bool true)], args := [d1, d2] }
  | _ => none }
def dirtsRow : OpenClaim := { program := "ytjfhbchfhpgefaagreatdoor", sum := "ef718a809fe45434d16cc3644dd92e2d51e0d21d6ecc4f48d2368a58c87367bc", func := "crucible/cruciblelaw19.Dirts", spec := "dirts", inPlace := ["internal/bytealg.IndexByteString", "internal/bytealg.IndexString", "internal/bytealg.CountString", "internal/abi.NoEscape", "internal/bytealg.MakeNoZero"], unfollowed := true, recurses := true, named := ["unicode/utf8.first", "unicode/utf8.acceptRanges", "internal/bytealg.MaxLen"], apart := false, laid := [("unicode/utf8.acceptRanges", laid_unicode_utf8_acceptRanges), ("unicode/utf8.first", laid_unicode_utf8_first)] }
def DirtsSaid : Prop := dirtsRow.holds Tryz.pinned (OpenSpec.ofChange dirtsSpec)

/-- ITS FALSE NEIGHBOUR: 'it returns false'. Refute it at one input. -/
def dirtsWrong : ChangeSpec := { name := "dirts", fn := fun _ => fun
  | [d1, d2] => { results := [.lit (.bool false)], args := [d1, d2] }
  | _ => none }
def DirtsWrongFalsely : Prop := dirtsRow.holds Tryz.pinned (OpenSpec.ofChange dirtsWrong)

/-- 'cruciblelaw19.DirtyOne': WHATEVER THE INPUT: true; the input reads as it did. -/
def dirtyOneSpec : ChangeSpec := { name := "dirtyOne", fn := fun _ => fun
  | [d1, d2] => { results := [.lit (.bool true)], args := [d1, d2] }
  | _ => none }
def dirtyOneRow : OpenClaim := { program := "ytjfhbchfhpgefaagreatdoor", sum := "ef718a809fe45434d16cc3644dd92e2d51e0d21d6ecc4f48d2368a58c87367bc", func := "crucible/cruciblelaw19.DirtyOne", spec := "dirtyOne", inPlace := ["internal/bytealg.IndexByteString", "internal/bytealg.IndexString", "internal/bytealg.CountString", "internal/abi.NoEscape", "internal/bytealg.MakeNoZero"], unfollowed := true, recurses := true, named := ["unicode/utf8.first", "unicode/utf8.acceptRanges", "internal/bytealg.MaxLen"], apart := false, laid := [("unicode/utf8.acceptRanges", laid_unicode_utf8_acceptRanges), ("unicode/utf8.first", laid_unicode_utf8_first)] }
def DirtyOneSaid : Prop := dirtyOneRow.holds Tryz.pinned (OpenSpec.ofChange dirtyOneSpec)

/-- ITS FALSE NEIGHBOUR: 'it returns false'. Refute it at one input. -/
def dirtyOneWrong : ChangeSpec := { name := "dirtyOne", fn := fun _ => fun
  | [d1, d2] => { results := [.lit (.bool false)], args := [d1, d2] }
  | _ => none }
def DirtyOneWrongFalsely : Prop := dirtyOneRow.holds Tryz.pinned (OpenSpec.ofChange dirtyOneWrong)

/-- 'cruciblelaw19.DirtyDown': WHATEVER THE INPUT: true; the input reads as it did. -/
def dirtyDownSpec : ChangeSpec := { name := "dirtyDown", fn := fun _ => fun
  | [d1, d2] => { results := [.lit (.bool true)], args := [d1, d2] }
  | _ => none }
def dirtyDownRow : OpenClaim := { program := "ytjfhbchfhpgefaagreatdoor", sum := "ef718a809fe45434d16cc3644dd92e2d51e0d21d6ecc4f48d2368a58c87367bc", func := "crucible/cruciblelaw19.DirtyDown", spec := "dirtyDown", inPlace := ["internal/bytealg.IndexByteString", "internal/bytealg.IndexString", "internal/bytealg.CountString", "internal/abi.NoEscape", "internal/bytealg.MakeNoZero"], unfollowed := true, recurses := true, named := ["unicode/utf8.first", "unicode/utf8.acceptRanges", "internal/bytealg.MaxLen"], apart := false, laid := [("unicode/utf8.acceptRanges", laid_unicode_utf8_acceptRanges), ("unicode/utf8.first", laid_unicode_utf8_first)] }
def DirtyDownSaid : Prop := dirtyDownRow.holds Tryz.pinned (OpenSpec.ofChange dirtyDownSpec)

/-- ITS FALSE NEIGHBOUR: 'it returns false'. Refute it at one input. -/
def dirtyDownWrong : ChangeSpec := { name := "dirtyDown", fn := fun _ => fun
  | [d1, d2] => { results := [.lit (.bool false)], args := [d1, d2] }
  | _ => none }
def DirtyDownWrongFalsely : Prop := dirtyDownRow.holds Tryz.pinned (OpenSpec.ofChange dirtyDownWrong)

/-- 'cruciblelaw19.DirtyForms': WHATEVER THE INPUT: true; the input reads as it did. -/
def dirtyFormsSpec : ChangeSpec := { name := "dirtyForms", fn := fun _ => fun
  | [d1, d2] => { results := [.lit (.bool true)], args := [d1, d2] }
  | _ => none }
def dirtyFormsRow : OpenClaim := { program := "ytjfhbchfhpgefaagreatdoor", sum := "ef718a809fe45434d16cc3644dd92e2d51e0d21d6ecc4f48d2368a58c87367bc", func := "crucible/cruciblelaw19.DirtyForms", spec := "dirtyForms", inPlace := ["internal/bytealg.IndexByteString", "internal/bytealg.IndexString", "internal/bytealg.CountString", "internal/abi.NoEscape", "internal/bytealg.MakeNoZero"], unfollowed := true, recurses := true, named := ["unicode/utf8.first", "unicode/utf8.acceptRanges", "internal/bytealg.MaxLen"], apart := false, laid := [("unicode/utf8.acceptRanges", laid_unicode_utf8_acceptRanges), ("unicode/utf8.first", laid_unicode_utf8_first)] }
def DirtyFormsSaid : Prop := dirtyFormsRow.holds Tryz.pinned (OpenSpec.ofChange dirtyFormsSpec)

/-- ITS FALSE NEIGHBOUR: 'it returns false'. Refute it at one input. -/
def dirtyFormsWrong : ChangeSpec := { name := "dirtyForms", fn := fun _ => fun
  | [d1, d2] => { results := [.lit (.bool false)], args := [d1, d2] }
  | _ => none }
def DirtyFormsWrongFalsely : Prop := dirtyFormsRow.holds Tryz.pinned (OpenSpec.ofChange dirtyFormsWrong)

/-- 'cruciblelaw19.DirtyEmpty': WHATEVER THE INPUT: true; the input reads as it did. -/
def dirtyEmptySpec : ChangeSpec := { name := "dirtyEmpty", fn := fun _ => fun
  | [d] => { results := [.lit (.bool true)], args := [d] }
  | _ => none }
def dirtyEmptyRow : OpenClaim := { program := "ytjfhbchfhpgefaagreatdoor", sum := "ef718a809fe45434d16cc3644dd92e2d51e0d21d6ecc4f48d2368a58c87367bc", func := "crucible/cruciblelaw19.DirtyEmpty", spec := "dirtyEmpty", inPlace := ["internal/bytealg.IndexByteString", "internal/bytealg.IndexString", "internal/bytealg.CountString", "internal/abi.NoEscape", "internal/bytealg.MakeNoZero"], unfollowed := true, recurses := true, named := ["unicode/utf8.first", "unicode/utf8.acceptRanges", "internal/bytealg.MaxLen"], apart := false, laid := [("unicode/utf8.acceptRanges", laid_unicode_utf8_acceptRanges), ("unicode/utf8.first", laid_unicode_utf8_first)] }
def DirtyEmptySaid : Prop := dirtyEmptyRow.holds Tryz.pinned (OpenSpec.ofChange dirtyEmptySpec)

/-- ITS FALSE NEIGHBOUR: 'it returns false'. Refute it at one input. -/
def dirtyEmptyWrong : ChangeSpec := { name := "dirtyEmpty", fn := fun _ => fun
  | [d] => { results := [.lit (.bool false)], args := [d] }
  | _ => none }
def DirtyEmptyWrongFalsely : Prop := dirtyEmptyRow.holds Tryz.pinned (OpenSpec.ofChange dirtyEmptyWrong)

/-- 'cruciblelaw19.DirtyOwn': WHATEVER THE INPUT: true; the input reads as it did. -/
def dirtyOwnSpec : ChangeSpec := { name := "dirtyOwn", fn := fun _ => fun
  | [d] => { results := [.lit (.bool true)], args := [d] }
  | _ => none }
def dirtyOwnRow : OpenClaim := { program := "ytjfhbchfhpgefaagreatdoor", sum := "ef718a809fe45434d16cc3644dd92e2d51e0d21d6ecc4f48d2368a58c87367bc", func := "crucible/cruciblelaw19.DirtyOwn", spec := "dirtyOwn", inPlace := ["internal/bytealg.IndexByteString", "internal/bytealg.IndexString", "internal/bytealg.CountString", "internal/abi.NoEscape", "internal/bytealg.MakeNoZero"], unfollowed := true, recurses := true, named := ["unicode/utf8.first", "unicode/utf8.acceptRanges", "internal/bytealg.MaxLen"], apart := false, laid := [("unicode/utf8.acceptRanges", laid_unicode_utf8_acceptRanges), ("unicode/utf8.first", laid_unicode_utf8_first)] }
def DirtyOwnSaid : Prop := dirtyOwnRow.holds Tryz.pinned (OpenSpec.ofChange dirtyOwnSpec)

/-- ITS FALSE NEIGHBOUR: 'it returns false'. Refute it at one input. -/
def dirtyOwnWrong : ChangeSpec := { name := "dirtyOwn", fn := fun _ => fun
  | [d] => { results := [.lit (.bool false)], args := [d] }
  | _ => none }
def DirtyOwnWrongFalsely : Prop := dirtyOwnRow.holds Tryz.pinned (OpenSpec.ofChange dirtyOwnWrong)

/-- 'cruciblelaw19.DirtyEdit': WHATEVER THE INPUT: true; the input reads as it did. -/
def dirtyEditSpec : ChangeSpec := { name := "dirtyEdit", fn := fun _ => fun
  | [d1, d2] => { results := [.lit (.bool true)], args := [d1, d2] }
  | _ => none }
def dirtyEditRow : OpenClaim := { program := "ytjfhbchfhpgefaagreatdoor", sum := "ef718a809fe45434d16cc3644dd92e2d51e0d21d6ecc4f48d2368a58c87367bc", func := "crucible/cruciblelaw19.DirtyEdit", spec := "dirtyEdit", inPlace := ["internal/bytealg.IndexByteString", "internal/bytealg.IndexString", "internal/bytealg.CountString", "internal/abi.NoEscape", "internal/bytealg.MakeNoZero"], unfollowed := true, recurses := true, named := ["unicode/utf8.first", "unicode/utf8.acceptRanges", "internal/bytealg.MaxLen"], apart := false, laid := [("unicode/utf8.acceptRanges", laid_unicode_utf8_acceptRanges), ("unicode/utf8.first", laid_unicode_utf8_first)] }
def DirtyEditSaid : Prop := dirtyEditRow.holds Tryz.pinned (OpenSpec.ofChange dirtyEditSpec)

/-- ITS FALSE NEIGHBOUR: 'it returns false'. Refute it at one input. -/
def dirtyEditWrong : ChangeSpec := { name := "dirtyEdit", fn := fun _ => fun
  | [d1, d2] => { results := [.lit (.bool false)], args := [d1, d2] }
  | _ => none }
def DirtyEditWrongFalsely : Prop := dirtyEditRow.holds Tryz.pinned (OpenSpec.ofChange dirtyEditWrong)

/-- 'cruciblelaw25.Toolses': WHATEVER THE INPUT: true; the input reads as it did. -/
def toolsesSpec : ChangeSpec := { name := "toolses", fn := fun _ => fun
  | [d] => { results := [.lit (.bool true)], args := [d] }
  | _ => none }
def toolsesRow : OpenClaim := { program := "ytjfhbchfhpgefaagreatdoor", sum := "ef718a809fe45434d16cc3644dd92e2d51e0d21d6ecc4f48d2368a58c87367bc", func := "crucible/cruciblelaw25.Toolses", spec := "toolses", inPlace := ["internal/bytealg.IndexByteString", "internal/bytealg.IndexString", "internal/bytealg.CountString", "internal/abi.NoEscape", "internal/bytealg.MakeNoZero", "slices.overlaps[crucible/api.File]"], unfollowed := true, recurses := true, named := ["unicode/utf8.first", "unicode/utf8.acceptRanges", "internal/bytealg.MaxLen"], apart := false, laid := [("unicode/utf8.acceptRanges", laid_unicode_utf8_acceptRanges), ("unicode/utf8.first", laid_unicode_utf8_first)] }
def ToolsesSaid : Prop := toolsesRow.holds Tryz.pinned (OpenSpec.ofChange toolsesSpec)

/-- ITS FALSE NEIGHBOUR: 'it returns false'. Refute it at one input. -/
def toolsesWrong : ChangeSpec := { name := "toolses", fn := fun _ => fun
  | [d] => { results := [.lit (.bool false)], args := [d] }
  | _ => none }
def ToolsesWrongFalsely : Prop := toolsesRow.holds Tryz.pinned (OpenSpec.ofChange toolsesWrong)

/-- 'cruciblelaw25.ToolForms': WHATEVER THE INPUT: true; the input reads as it did. -/
def toolFormsSpec : ChangeSpec := { name := "toolForms", fn := fun _ => fun
  | [d1, d2] => { results := [.lit (.bool true)], args := [d1, d2] }
  | _ => none }
def toolFormsRow : OpenClaim := { program := "ytjfhbchfhpgefaagreatdoor", sum := "ef718a809fe45434d16cc3644dd92e2d51e0d21d6ecc4f48d2368a58c87367bc", func := "crucible/cruciblelaw25.ToolForms", spec := "toolForms", inPlace := ["internal/bytealg.IndexByteString", "internal/bytealg.IndexString", "internal/bytealg.CountString", "internal/abi.NoEscape", "internal/bytealg.MakeNoZero", "slices.overlaps[crucible/api.File]"], unfollowed := true, recurses := true, named := ["unicode/utf8.first", "unicode/utf8.acceptRanges", "internal/bytealg.MaxLen"], apart := false, laid := [("unicode/utf8.acceptRanges", laid_unicode_utf8_acceptRanges), ("unicode/utf8.first", laid_unicode_utf8_first)] }
def ToolFormsSaid : Prop := toolFormsRow.holds Tryz.pinned (OpenSpec.ofChange toolFormsSpec)

/-- ITS FALSE NEIGHBOUR: 'it returns false'. Refute it at one input. -/
def toolFormsWrong : ChangeSpec := { name := "toolForms", fn := fun _ => fun
  | [d1, d2] => { results := [.lit (.bool false)], args := [d1, d2] }
  | _ => none }
def ToolFormsWrongFalsely : Prop := toolFormsRow.holds Tryz.pinned (OpenSpec.ofChange toolFormsWrong)

/-- 'cruciblelaw25.CleanMade': WHATEVER THE INPUT: true; the input reads as it did. -/
def cleanMadeSpec : ChangeSpec := { name := "cleanMade", fn := fun _ => fun
  | [d1, d2, d3] => { results := [.lit (.bool true)], args := [d1, d2, d3] }
  | _ => none }
def cleanMadeRow : OpenClaim := { program := "ytjfhbchfhpgefaagreatdoor", sum := "ef718a809fe45434d16cc3644dd92e2d51e0d21d6ecc4f48d2368a58c87367bc", func := "crucible/cruciblelaw25.CleanMade", spec := "cleanMade", inPlace := ["internal/bytealg.IndexByteString", "internal/bytealg.IndexString", "internal/bytealg.CountString", "internal/abi.NoEscape", "internal/bytealg.MakeNoZero", "slices.overlaps[crucible/api.File]"], unfollowed := true, recurses := true, named := ["unicode/utf8.first", "unicode/utf8.acceptRanges", "internal/bytealg.MaxLen"], apart := false, laid := [("unicode/utf8.acceptRanges", laid_unicode_utf8_acceptRanges), ("unicode/utf8.first", laid_unicode_utf8_first)] }
def CleanMadeSaid : Prop := cleanMadeRow.holds Tryz.pinned (OpenSpec.ofChange cleanMadeSpec)

/-- ITS FALSE NEIGHBOUR: 'it returns false'. Refute it at one input. -/
def cleanMadeWrong : ChangeSpec := { name := "cleanMade", fn := fun _ => fun
  | [d1, d2, d3] => { results := [.lit (.bool false)], args := [d1, d2, d3] }
  | _ => none }
def CleanMadeWrongFalsely : Prop := cleanMadeRow.holds Tryz.pinned (OpenSpec.ofChange cleanMadeWrong)

/-- 'cruciblelaw25.DeadOnly': WHATEVER THE INPUT: true; the input reads as it did. -/
def deadOnlySpec : ChangeSpec := { name := "deadOnly", fn := fun _ => fun
  | [d1, d2] => { results := [.lit (.bool true)], args := [d1, d2] }
  | _ => none }
def deadOnlyRow : OpenClaim := { program := "ytjfhbchfhpgefaagreatdoor", sum := "ef718a809fe45434d16cc3644dd92e2d51e0d21d6ecc4f48d2368a58c87367bc", func := "crucible/cruciblelaw25.DeadOnly", spec := "deadOnly", inPlace := ["internal/bytealg.IndexByteString", "internal/bytealg.IndexString", "internal/bytealg.CountString", "internal/abi.NoEscape", "internal/bytealg.MakeNoZero", "slices.overlaps[crucible/api.File]"], unfollowed := true, recurses := true, named := ["unicode/utf8.first", "unicode/utf8.acceptRanges", "internal/bytealg.MaxLen"], apart := false, laid := [("unicode/utf8.acceptRanges", laid_unicode_utf8_acceptRanges), ("unicode/utf8.first", laid_unicode_utf8_first)] }
def DeadOnlySaid : Prop := deadOnlyRow.holds Tryz.pinned (OpenSpec.ofChange deadOnlySpec)

/-- ITS FALSE NEIGHBOUR: 'it returns false'. Refute it at one input. -/
def deadOnlyWrong : ChangeSpec := { name := "deadOnly", fn := fun _ => fun
  | [d1, d2] => { results := [.lit (.bool false)], args := [d1, d2] }
  | _ => none }
def DeadOnlyWrongFalsely : Prop := deadOnlyRow.holds Tryz.pinned (OpenSpec.ofChange deadOnlyWrong)

/-- 'cruciblelaw25.CleanTwice': WHATEVER THE INPUT: true; the input reads as it did. -/
def cleanTwiceSpec : ChangeSpec := { name := "cleanTwice", fn := fun _ => fun
  | [d1, d2, d3, d4, d5] => { results := [.lit (.bool true)], args := [d1, d2, d3, d4, d5] }
  | _ => none }
def cleanTwiceRow : OpenClaim := { program := "ytjfhbchfhpgefaagreatdoor", sum := "ef718a809fe45434d16cc3644dd92e2d51e0d21d6ecc4f48d2368a58c87367bc", func := "crucible/cruciblelaw25.CleanTwice", spec := "cleanTwice", inPlace := ["internal/bytealg.IndexByteString", "internal/bytealg.IndexString", "internal/bytealg.CountString", "internal/abi.NoEscape", "internal/bytealg.MakeNoZero", "slices.overlaps[crucible/api.File]"], unfollowed := true, recurses := true, named := ["unicode/utf8.first", "unicode/utf8.acceptRanges", "internal/bytealg.MaxLen"], apart := false, laid := [("unicode/utf8.acceptRanges", laid_unicode_utf8_acceptRanges), ("unicode/utf8.first", laid_unicode_utf8_first)] }
def CleanTwiceSaid : Prop := cleanTwiceRow.holds Tryz.pinned (OpenSpec.ofChange cleanTwiceSpec)

/-- ITS FALSE NEIGHBOUR: 'it returns false'. Refute it at one input. -/
def cleanTwiceWrong : ChangeSpec := { name := "cleanTwice", fn := fun _ => fun
  | [d1, d2, d3, d4, d5] => { results := [.lit (.bool false)], args := [d1, d2, d3, d4, d5] }
  | _ => none }
def CleanTwiceWrongFalsely : Prop := cleanTwiceRow.holds Tryz.pinned (OpenSpec.ofChange cleanTwiceWrong)

/-- 'cruciblelaw25.CleanNone': WHATEVER THE INPUT: true; the input reads as it did. -/
def cleanNoneSpec : ChangeSpec := { name := "cleanNone", fn := fun _ => fun
  | [d1, d2, d3] => { results := [.lit (.bool true)], args := [d1, d2, d3] }
  | _ => none }
def cleanNoneRow : OpenClaim := { program := "ytjfhbchfhpgefaagreatdoor", sum := "ef718a809fe45434d16cc3644dd92e2d51e0d21d6ecc4f48d2368a58c87367bc", func := "crucible/cruciblelaw25.CleanNone", spec := "cleanNone", inPlace := ["internal/bytealg.IndexByteString", "internal/bytealg.IndexString", "internal/bytealg.CountString", "internal/abi.NoEscape", "internal/bytealg.MakeNoZero", "slices.overlaps[crucible/api.File]"], unfollowed := true, recurses := true, named := ["unicode/utf8.first", "unicode/utf8.acceptRanges", "internal/bytealg.MaxLen"], apart := false, laid := [("unicode/utf8.acceptRanges", laid_unicode_utf8_acceptRanges), ("unicode/utf8.first", laid_unicode_utf8_first)] }
def CleanNoneSaid : Prop := cleanNoneRow.holds Tryz.pinned (OpenSpec.ofChange cleanNoneSpec)

/-- ITS FALSE NEIGHBOUR: 'it returns false'. Refute it at one input. -/
def cleanNoneWrong : ChangeSpec := { name := "cleanNone", fn := fun _ => fun
  | [d1, d2, d3] => { results := [.lit (.bool false)], args := [d1, d2, d3] }
  | _ => none }
def CleanNoneWrongFalsely : Prop := cleanNoneRow.holds Tryz.pinned (OpenSpec.ofChange cleanNoneWrong)

/- THE SECOND FORM. 'bulk': how many values and letters a reading holds, each counted each time it is reached (what is shared counts as often as it is met; a slice's spare places count too). A statement '..UptoSaid' is the law's where the arguments, and the package variables that the reading takes, are together of bulk at most 1048576: NARROWER than '..Said'. Prove '..Said' where nothing that the law and all that it calls make is longer than what came in: it says more and counts as full. Else prove '..UptoSaid'. A law counts once. -/
mutual
def uptoBulk {H : Type} : DataW H → Nat
  | .lit (.string bytes) => bytes.length + 1
  | .lit _ => 1
  | .nil => 1
  | .ptr d => uptoBulk d + 1
  | .slice elems spare => uptoBulkAll elems + uptoBulkAll spare + 1
  | .agg parts => uptoBulkAll parts + 1
  | .iface _ d => uptoBulk d + 1
  | .map entries => uptoBulkEntries entries + 1
  | .held _ => 1
def uptoBulkAll {H : Type} : List (DataW H) → Nat
  | [] => 0
  | d :: r => uptoBulk d + uptoBulkAll r
def uptoBulkEntries {H : Type} : List (Lit × DataW H) → Nat
  | [] => 0
  | x :: r => uptoBulkEntry x + uptoBulkEntries r
def uptoBulkEntry {H : Type} : Lit × DataW H → Nat
  | (.string bytes, d) => bytes.length + uptoBulk d + 1
  | (_, d) => uptoBulk d + 1
 end
def uptoSmall : (H : Type) → List (DataW H) → Bool := fun _ ds => decide (uptoBulkAll ds ≤ 1048576)
def OpenSpec.upto (s : _root_.Go.ChangeSpec) : _root_.Go.OpenSpec := { _root_.Go.OpenSpec.ofChange s with cond := some uptoSmall }

/-- 'cruciblelaw19.Dirts', WHERE WHAT IT READS IS OF BULK AT MOST 1048576: true; the input reads as it did. -/
def dirtsUptoRow : OpenClaim := { program := "ytjfhbchfhpgefaagreatdoor", sum := "ef718a809fe45434d16cc3644dd92e2d51e0d21d6ecc4f48d2368a58c87367bc", func := "crucible/cruciblelaw19.Dirts", spec := "dirts", inPlace := ["internal/bytealg.IndexByteString", "internal/bytealg.IndexString", "internal/bytealg.CountString", "internal/abi.NoEscape", "internal/bytealg.MakeNoZero"], unfollowed := true, recurses := true, named := ["unicode/utf8.first", "unicode/utf8.acceptRanges", "internal/bytealg.MaxLen"], apart := false, laid := [("unicode/utf8.acceptRanges", laid_unicode_utf8_acceptRanges), ("unicode/utf8.first", laid_unicode_utf8_first)], narrowed := true }
def DirtsUptoSaid : Prop := dirtsUptoRow.holds Tryz.pinned (OpenSpec.upto dirtsSpec)

/-- 'cruciblelaw19.DirtyOne', WHERE WHAT IT READS IS OF BULK AT MOST 1048576: true; the input reads as it did. -/
def dirtyOneUptoRow : OpenClaim := { program := "ytjfhbchfhpgefaagreatdoor", sum := "ef718a809fe45434d16cc3644dd92e2d51e0d21d6ecc4f48d2368a58c87367bc", func := "crucible/cruciblelaw19.DirtyOne", spec := "dirtyOne", inPlace := ["internal/bytealg.IndexByteString", "internal/bytealg.IndexString", "internal/bytealg.CountString", "internal/abi.NoEscape", "internal/bytealg.MakeNoZero"], unfollowed := true, recurses := true, named := ["unicode/utf8.first", "unicode/utf8.acceptRanges", "internal/bytealg.MaxLen"], apart := false, laid := [("unicode/utf8.acceptRanges", laid_unicode_utf8_acceptRanges), ("unicode/utf8.first", laid_unicode_utf8_first)], narrowed := true }
def DirtyOneUptoSaid : Prop := dirtyOneUptoRow.holds Tryz.pinned (OpenSpec.upto dirtyOneSpec)

/-- 'cruciblelaw19.DirtyDown', WHERE WHAT IT READS IS OF BULK AT MOST 1048576: true; the input reads as it did. -/
def dirtyDownUptoRow : OpenClaim := { program := "ytjfhbchfhpgefaagreatdoor", sum := "ef718a809fe45434d16cc3644dd92e2d51e0d21d6ecc4f48d2368a58c87367bc", func := "crucible/cruciblelaw19.DirtyDown", spec := "dirtyDown", inPlace := ["internal/bytealg.IndexByteString", "internal/bytealg.IndexString", "internal/bytealg.CountString", "internal/abi.NoEscape", "internal/bytealg.MakeNoZero"], unfollowed := true, recurses := true, named := ["unicode/utf8.first", "unicode/utf8.acceptRanges", "internal/bytealg.MaxLen"], apart := false, laid := [("unicode/utf8.acceptRanges", laid_unicode_utf8_acceptRanges), ("unicode/utf8.first", laid_unicode_utf8_first)], narrowed := true }
def DirtyDownUptoSaid : Prop := dirtyDownUptoRow.holds Tryz.pinned (OpenSpec.upto dirtyDownSpec)

/-- 'cruciblelaw19.DirtyForms', WHERE WHAT IT READS IS OF BULK AT MOST 1048576: true; the input reads as it did. -/
def dirtyFormsUptoRow : OpenClaim := { program := "ytjfhbchfhpgefaagreatdoor", sum := "ef718a809fe45434d16cc3644dd92e2d51e0d21d6ecc4f48d2368a58c87367bc", func := "crucible/cruciblelaw19.DirtyForms", spec := "dirtyForms", inPlace := ["internal/bytealg.IndexByteString", "internal/bytealg.IndexString", "internal/bytealg.CountString", "internal/abi.NoEscape", "internal/bytealg.MakeNoZero"], unfollowed := true, recurses := true, named := ["unicode/utf8.first", "unicode/utf8.acceptRanges", "internal/bytealg.MaxLen"], apart := false, laid := [("unicode/utf8.acceptRanges", laid_unicode_utf8_acceptRanges), ("unicode/utf8.first", laid_unicode_utf8_first)], narrowed := true }
def DirtyFormsUptoSaid : Prop := dirtyFormsUptoRow.holds Tryz.pinned (OpenSpec.upto dirtyFormsSpec)

/-- 'cruciblelaw19.DirtyEmpty', WHERE WHAT IT READS IS OF BULK AT MOST 1048576: true; the input reads as it did. -/
def dirtyEmptyUptoRow : OpenClaim := { program := "ytjfhbchfhpgefaagreatdoor", sum := "ef718a809fe45434d16cc3644dd92e2d51e0d21d6ecc4f48d2368a58c87367bc", func := "crucible/cruciblelaw19.DirtyEmpty", spec := "dirtyEmpty", inPlace := ["internal/bytealg.IndexByteString", "internal/bytealg.IndexString", "internal/bytealg.CountString", "internal/abi.NoEscape", "internal/bytealg.MakeNoZero"], unfollowed := true, recurses := true, named := ["unicode/utf8.first", "unicode/utf8.acceptRanges", "internal/bytealg.MaxLen"], apart := false, laid := [("unicode/utf8.acceptRanges", laid_unicode_utf8_acceptRanges), ("unicode/utf8.first", laid_unicode_utf8_first)], narrowed := true }
def DirtyEmptyUptoSaid : Prop := dirtyEmptyUptoRow.holds Tryz.pinned (OpenSpec.upto dirtyEmptySpec)

/-- 'cruciblelaw19.DirtyOwn', WHERE WHAT IT READS IS OF BULK AT MOST 1048576: true; the input reads as it did. -/
def dirtyOwnUptoRow : OpenClaim := { program := "ytjfhbchfhpgefaagreatdoor", sum := "ef718a809fe45434d16cc3644dd92e2d51e0d21d6ecc4f48d2368a58c87367bc", func := "crucible/cruciblelaw19.DirtyOwn", spec := "dirtyOwn", inPlace := ["internal/bytealg.IndexByteString", "internal/bytealg.IndexString", "internal/bytealg.CountString", "internal/abi.NoEscape", "internal/bytealg.MakeNoZero"], unfollowed := true, recurses := true, named := ["unicode/utf8.first", "unicode/utf8.acceptRanges", "internal/bytealg.MaxLen"], apart := false, laid := [("unicode/utf8.acceptRanges", laid_unicode_utf8_acceptRanges), ("unicode/utf8.first", laid_unicode_utf8_first)], narrowed := true }
def DirtyOwnUptoSaid : Prop := dirtyOwnUptoRow.holds Tryz.pinned (OpenSpec.upto dirtyOwnSpec)

/-- 'cruciblelaw19.DirtyEdit', WHERE WHAT IT READS IS OF BULK AT MOST 1048576: true; the input reads as it did. -/
def dirtyEditUptoRow : OpenClaim := { program := "ytjfhbchfhpgefaagreatdoor", sum := "ef718a809fe45434d16cc3644dd92e2d51e0d21d6ecc4f48d2368a58c87367bc", func := "crucible/cruciblelaw19.DirtyEdit", spec := "dirtyEdit", inPlace := ["internal/bytealg.IndexByteString", "internal/bytealg.IndexString", "internal/bytealg.CountString", "internal/abi.NoEscape", "internal/bytealg.MakeNoZero"], unfollowed := true, recurses := true, named := ["unicode/utf8.first", "unicode/utf8.acceptRanges", "internal/bytealg.MaxLen"], apart := false, laid := [("unicode/utf8.acceptRanges", laid_unicode_utf8_acceptRanges), ("unicode/utf8.first", laid_unicode_utf8_first)], narrowed := true }
def DirtyEditUptoSaid : Prop := dirtyEditUptoRow.holds Tryz.pinned (OpenSpec.upto dirtyEditSpec)

/-- 'cruciblelaw25.Toolses', WHERE WHAT IT READS IS OF BULK AT MOST 1048576: true; the input reads as it did. -/
def toolsesUptoRow : OpenClaim := { program := "ytjfhbchfhpgefaagreatdoor", sum := "ef718a809fe45434d16cc3644dd92e2d51e0d21d6ecc4f48d2368a58c87367bc", func := "crucible/cruciblelaw25.Toolses", spec := "toolses", inPlace := ["internal/bytealg.IndexByteString", "internal/bytealg.IndexString", "internal/bytealg.CountString", "internal/abi.NoEscape", "internal/bytealg.MakeNoZero", "slices.overlaps[crucible/api.File]"], unfollowed := true, recurses := true, named := ["unicode/utf8.first", "unicode/utf8.acceptRanges", "internal/bytealg.MaxLen"], apart := false, laid := [("unicode/utf8.acceptRanges", laid_unicode_utf8_acceptRanges), ("unicode/utf8.first", laid_unicode_utf8_first)], narrowed := true }
def ToolsesUptoSaid : Prop := toolsesUptoRow.holds Tryz.pinned (OpenSpec.upto toolsesSpec)

/-- 'cruciblelaw25.ToolForms', WHERE WHAT IT READS IS OF BULK AT MOST 1048576: true; the input reads as it did. -/
def toolFormsUptoRow : OpenClaim := { program := "ytjfhbchfhpgefaagreatdoor", sum := "ef718a809fe45434d16cc3644dd92e2d51e0d21d6ecc4f48d2368a58c87367bc", func := "crucible/cruciblelaw25.ToolForms", spec := "toolForms", inPlace := ["internal/bytealg.IndexByteString", "internal/bytealg.IndexString", "internal/bytealg.CountString", "internal/abi.NoEscape", "internal/bytealg.MakeNoZero", "slices.overlaps[crucible/api.File]"], unfollowed := true, recurses := true, named := ["unicode/utf8.first", "unicode/utf8.acceptRanges", "internal/bytealg.MaxLen"], apart := false, laid := [("unicode/utf8.acceptRanges", laid_unicode_utf8_acceptRanges), ("unicode/utf8.first", laid_unicode_utf8_first)], narrowed := true }
def ToolFormsUptoSaid : Prop := toolFormsUptoRow.holds Tryz.pinned (OpenSpec.upto toolFormsSpec)

/-- 'cruciblelaw25.CleanMade', WHERE WHAT IT READS IS OF BULK AT MOST 1048576: true; the input reads as it did. -/
def cleanMadeUptoRow : OpenClaim := { program := "ytjfhbchfhpgefaagreatdoor", sum := "ef718a809fe45434d16cc3644dd92e2d51e0d21d6ecc4f48d2368a58c87367bc", func := "crucible/cruciblelaw25.CleanMade", spec := "cleanMade", inPlace := ["internal/bytealg.IndexByteString", "internal/bytealg.IndexString", "internal/bytealg.CountString", "internal/abi.NoEscape", "internal/bytealg.MakeNoZero", "slices.overlaps[crucible/api.File]"], unfollowed := true, recurses := true, named := ["unicode/utf8.first", "unicode/utf8.acceptRanges", "internal/bytealg.MaxLen"], apart := false, laid := [("unicode/utf8.acceptRanges", laid_unicode_utf8_acceptRanges), ("unicode/utf8.first", laid_unicode_utf8_first)], narrowed := true }
def CleanMadeUptoSaid : Prop := cleanMadeUptoRow.holds Tryz.pinned (OpenSpec.upto cleanMadeSpec)

/-- 'cruciblelaw25.DeadOnly', WHERE WHAT IT READS IS OF BULK AT MOST 1048576: true; the input reads as it did. -/
def deadOnlyUptoRow : OpenClaim := { program := "ytjfhbchfhpgefaagreatdoor", sum := "ef718a809fe45434d16cc3644dd92e2d51e0d21d6ecc4f48d2368a58c87367bc", func := "crucible/cruciblelaw25.DeadOnly", spec := "deadOnly", inPlace := ["internal/bytealg.IndexByteString", "internal/bytealg.IndexString", "internal/bytealg.CountString", "internal/abi.NoEscape", "internal/bytealg.MakeNoZero", "slices.overlaps[crucible/api.File]"], unfollowed := true, recurses := true, named := ["unicode/utf8.first", "unicode/utf8.acceptRanges", "internal/bytealg.MaxLen"], apart := false, laid := [("unicode/utf8.acceptRanges", laid_unicode_utf8_acceptRanges), ("unicode/utf8.first", laid_unicode_utf8_first)], narrowed := true }
def DeadOnlyUptoSaid : Prop := deadOnlyUptoRow.holds Tryz.pinned (OpenSpec.upto deadOnlySpec)

/-- 'cruciblelaw25.CleanTwice', WHERE WHAT IT READS IS OF BULK AT MOST 1048576: true; the input reads as it did. -/
def cleanTwiceUptoRow : OpenClaim := { program := "ytjfhbchfhpgefaagreatdoor", sum := "ef718a809fe45434d16cc3644dd92e2d51e0d21d6ecc4f48d2368a58c87367bc", func := "crucible/cruciblelaw25.CleanTwice", spec := "cleanTwice", inPlace := ["internal/bytealg.IndexByteString", "internal/bytealg.IndexString", "internal/bytealg.CountString", "internal/abi.NoEscape", "internal/bytealg.MakeNoZero", "slices.overlaps[crucible/api.File]"], unfollowed := true, recurses := true, named := ["unicode/utf8.first", "unicode/utf8.acceptRanges", "internal/bytealg.MaxLen"], apart := false, laid := [("unicode/utf8.acceptRanges", laid_unicode_utf8_acceptRanges), ("unicode/utf8.first", laid_unicode_utf8_first)], narrowed := true }
def CleanTwiceUptoSaid : Prop := cleanTwiceUptoRow.holds Tryz.pinned (OpenSpec.upto cleanTwiceSpec)

/-- 'cruciblelaw25.CleanNone', WHERE WHAT IT READS IS OF BULK AT MOST 1048576: true; the input reads as it did. -/
def cleanNoneUptoRow : OpenClaim := { program := "ytjfhbchfhpgefaagreatdoor", sum := "ef718a809fe45434d16cc3644dd92e2d51e0d21d6ecc4f48d2368a58c87367bc", func := "crucible/cruciblelaw25.CleanNone", spec := "cleanNone", inPlace := ["internal/bytealg.IndexByteString", "internal/bytealg.IndexString", "internal/bytealg.CountString", "internal/abi.NoEscape", "internal/bytealg.MakeNoZero", "slices.overlaps[crucible/api.File]"], unfollowed := true, recurses := true, named := ["unicode/utf8.first", "unicode/utf8.acceptRanges", "internal/bytealg.MaxLen"], apart := false, laid := [("unicode/utf8.acceptRanges", laid_unicode_utf8_acceptRanges), ("unicode/utf8.first", laid_unicode_utf8_first)], narrowed := true }
def CleanNoneUptoSaid : Prop := cleanNoneUptoRow.holds Tryz.pinned (OpenSpec.upto cleanNoneSpec)

end Rows
end Go.Proofs.YtjfhbchfhpgefaaGreatDoor

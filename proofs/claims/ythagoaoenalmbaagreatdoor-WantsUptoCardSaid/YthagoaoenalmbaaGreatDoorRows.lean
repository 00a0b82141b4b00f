/-
  NARROWER THAN 'FOR EVERY INPUT', by the rows' own cells (each row's printed sentence says how): Graphs: laid · Orders: laid · Wants: laid · Readies: laid · ReadyTable: laid · ReadyForms: laid · ReadyNeeds: laid · Rooms: laid · RoomTable: laid · RoomForms: laid · RoomLess: laid.
  DERIVED. THE GIVEN ROWS OF THIS SEAT. 11 by the template 'for every input the law returns true; each argument reads behind the call as it read before'; 0 by the template 'total and deterministic' (their statements: YthagoaoenalmbaaGreatDoorTotals.lean).
  GIVEN WITH THE SEED: the statements are not yours to turn. If you find one false, say at which input.
  Laid BY PROGRAM, IN A SANDBOX (cutbox-rows.mjs): the forced cells as the released guide's own fill.sh prints them over the translation 9ad7c9e99c106990… (all of the seat's roots in one cut). By AI agents, Wed Nov 11 2026. No macro, syntax, notation, axiom, sorry.
-/
import Derived.Test.YthagoaoenalmbaaGreatDoorChecked
import GoSem.PinnedTables
import GoSem.Claim
import GoSem.ClaimJoined
import GoSem.ClaimMapViews
import Derived.JoinedTies
import Derived.KernelRfl
namespace Go.Proofs.YthagoaoenalmbaaGreatDoor
/- THE CELL 'sum', in the pinned program and in every row, IS THE sha256 OF THE DUMP (.gsa) THAT YthagoaoenalmbaaGreatDoorProg.lean LOADS. Nothing in Lean hashes anything: it is a label: what it is worth is what the hold of that sum in a sandbox is worth. -/
noncomputable def Tryz.pinned : Pinned := { name := "ythagoaoenalmbaagreatdoor", sum := "9ad7c9e99c106990f6268575915a308368db8f6992ffe1cccda1b54814e54bb1", checked := Tryz.checked }
namespace Rows
def none {H : Type} : Left H := { results := [], args := [] }

/- WHAT THE LISTED PACKAGE-LEVEL VARIABLES READ AS WHEN THE CALL BEGINS. Each datum BY PROGRAM (the guide's laid-datum.mjs) off the statement by which the dump's own 'gosem.cut.vars' lays the variable. In a bare row this is a premise. The card (YthagoaoenalmbaaGreatDoorCards.lean) ties it to the program's text. -/
def laid_unicode_utf8_acceptRanges {H : Type} : DataW H := .agg [.agg [.lit (.int .u8 128), .lit (.int .u8 191)], .agg [.lit (.int .u8 160), .lit (.int .u8 191)], .agg [.lit (.int .u8 128), .lit (.int .u8 159)], .agg [.lit (.int .u8 144), .lit (.int .u8 191)], .agg [.lit (.int .u8 128), .lit (.int .u8 143)], .agg [.lit (.int .u8 0), .lit (.int .u8 0)], .agg [.lit (.int .u8 0), .lit (.int .u8 0)], .agg [.lit (.int .u8 0), .lit (.int .u8 0)], .agg [.lit (.int .u8 0), .lit (.int .u8 0)], .agg [.lit (.int .u8 0), .lit (.int .u8 0)], .agg [.lit (.int .u8 0), .lit (.int .u8 0)], .agg [.lit (.int .u8 0), .lit (.int .u8 0)], .agg [.lit (.int .u8 0), .lit (.int .u8 0)], .agg [.lit (.int .u8 0), .lit (.int .u8 0)], .agg [.lit (.int .u8 0), .lit (.int .u8 0)], .agg [.lit (.int .u8 0), .lit (.int .u8 0)]]
/-- One of Go's own tables, pinned by name: the form's constant. -/
def laid_unicode_utf8_first : DataW Unit := Go.Pinned.utf8First

/-- 'cruciblelaw9.Graphs': WHATEVER THE INPUT: true; the input reads as it did. -/
def graphsSpec : ChangeSpec := { name := "graphs", fn := fun _ => fun
  | [d1, d2] => { results := [.lit (.bool true)], args := [d1, d2] }
  | _ => none }
def graphsRow : OpenClaim := { program := "ythagoaoenalmbaagreatdoor", sum := "9ad7c9e99c106990f6268575915a308368db8f6992ffe1cccda1b54814e54bb1", func := "crucible/cruciblelaw9.Graphs", spec := "graphs", inPlace := ["internal/bytealg.IndexByteString", "internal/bytealg.IndexString", "internal/bytealg.CountString", "internal/abi.NoEscape", "internal/bytealg.MakeNoZero"], unfollowed := true, recurses := true, named := ["unicode/utf8.first", "unicode/utf8.acceptRanges", "internal/bytealg.MaxLen"], apart := false, laid := [("unicode/utf8.acceptRanges", laid_unicode_utf8_acceptRanges), ("unicode/utf8.first", laid_unicode_utf8_first)] }
def GraphsSaid : Prop := graphsRow.holds Tryz.pinned (OpenSpec.ofChange graphsSpec)

/-- ITS FALSE NEIGHBOUR: 'it returns false'. Refute it at one input. -/
def graphsWrong : ChangeSpec := { name := "graphs", fn := fun _ => fun
  | [d1, d2] => { results := [.lit (.bool false)], args := [d1, d2] }
  | _ => none }
def GraphsWrongFalsely : Prop := graphsRow.holds Tryz.pinned (OpenSpec.ofChange graphsWrong)

/-- 'cruciblelaw10.Orders': WHATEVER THE INPUT: true; the input reads as it did. -/
def ordersSpec : ChangeSpec := { name := "orders", fn := fun _ => fun
  | [d] => { results := [.lit (.bool true)], args := [d] }
  | _ => none }
def ordersRow : OpenClaim := { program := "ythagoaoenalmbaagreatdoor", sum := "9ad7c9e99c106990f6268575915a308368db8f6992ffe1cccda1b54814e54bb1", func := "crucible/cruciblelaw10.Orders", spec := "orders", inPlace := ["internal/bytealg.IndexByteString", "internal/bytealg.IndexString", "internal/bytealg.CountString", "internal/abi.NoEscape", "internal/bytealg.MakeNoZero"], unfollowed := true, recurses := true, named := ["unicode/utf8.first", "unicode/utf8.acceptRanges", "internal/bytealg.MaxLen"], apart := false, laid := [("unicode/utf8.acceptRanges", laid_unicode_utf8_acceptRanges), ("unicode/utf8.first", laid_unicode_utf8_first)] }
def OrdersSaid : Prop := ordersRow.holds Tryz.pinned (OpenSpec.ofChange ordersSpec)

/-- ITS FALSE NEIGHBOUR: 'it returns false'. Refute it at one input. -/
def ordersWrong : ChangeSpec := { name := "orders", fn := fun _ => fun
  | [d] => { results := [.lit (.bool false)], args := [d] }
  | _ => none }
def OrdersWrongFalsely : Prop := ordersRow.holds Tryz.pinned (OpenSpec.ofChange ordersWrong)

/-- 'cruciblelaw20.Wants': WHATEVER THE INPUT: true; the input reads as it did. -/
def wantsSpec : ChangeSpec := { name := "wants", fn := fun _ => fun
  | [d1, d2] => { results := [.lit (.bool true)], args := [d1, d2] }
  | _ => none }
def wantsRow : OpenClaim := { program := "ythagoaoenalmbaagreatdoor", sum := "9ad7c9e99c106990f6268575915a308368db8f6992ffe1cccda1b54814e54bb1", func := "crucible/cruciblelaw20.Wants", spec := "wants", inPlace := ["internal/bytealg.IndexByteString", "internal/bytealg.IndexString", "internal/bytealg.CountString", "internal/abi.NoEscape", "internal/bytealg.MakeNoZero"], unfollowed := true, recurses := true, named := ["unicode/utf8.first", "unicode/utf8.acceptRanges", "internal/bytealg.MaxLen"], apart := false, laid := [("unicode/utf8.acceptRanges", laid_unicode_utf8_acceptRanges), ("unicode/utf8.first", laid_unicode_utf8_first)] }
def WantsSaid : Prop := wantsRow.holds Tryz.pinned (OpenSpec.ofChange wantsSpec)

/-- ITS FALSE NEIGHBOUR: 'it returns false'. Refute it at one input. -/
def wantsWrong : ChangeSpec := { name := "wants", fn := fun _ => fun
  | [d1, d2] => { results := [.lit (.bool false)], args := [d1, d2] }
  | _ => none }
def WantsWrongFalsely : Prop := wantsRow.holds Tryz.pinned (OpenSpec.ofChange wantsWrong)

/-- 'cruciblelaw21.Readies': WHATEVER THE INPUT: true; the input reads as it did. -/
def readiesSpec : ChangeSpec := { name := "readies", fn := fun _ => fun
  | [d1, d2] => { results := [.lit (.bool true)], args := [d1, d2] }
  | _ => none }
def readiesRow : OpenClaim := { program := "ythagoaoenalmbaagreatdoor", sum := "9ad7c9e99c106990f6268575915a308368db8f6992ffe1cccda1b54814e54bb1", func := "crucible/cruciblelaw21.Readies", spec := "readies", inPlace := ["internal/bytealg.IndexByteString", "internal/bytealg.IndexString", "internal/bytealg.CountString", "internal/abi.NoEscape", "internal/bytealg.MakeNoZero"], unfollowed := true, recurses := true, named := ["unicode/utf8.first", "unicode/utf8.acceptRanges", "internal/bytealg.MaxLen"], apart := false, laid := [("unicode/utf8.acceptRanges", laid_unicode_utf8_acceptRanges), ("unicode/utf8.first", laid_unicode_utf8_first)] }
def ReadiesSaid : Prop := readiesRow.holds Tryz.pinned (OpenSpec.ofChange readiesSpec)

/-- ITS FALSE NEIGHBOUR: 'it returns false'. Refute it at one input. -/
def readiesWrong : ChangeSpec := { name := "readies", fn := fun _ => fun
  | [d1, d2] => { results := [.lit (.bool false)], args := [d1, d2] }
  | _ => none }
def ReadiesWrongFalsely : Prop := readiesRow.holds Tryz.pinned (OpenSpec.ofChange readiesWrong)

/-- 'cruciblelaw21.ReadyTable': WHATEVER THE INPUT: true; the input reads as it did. -/
def readyTableSpec : ChangeSpec := { name := "readyTable", fn := fun _ => fun
  | [d1, d2, d3, d4] => { results := [.lit (.bool true)], args := [d1, d2, d3, d4] }
  | _ => none }
def readyTableRow : OpenClaim := { program := "ythagoaoenalmbaagreatdoor", sum := "9ad7c9e99c106990f6268575915a308368db8f6992ffe1cccda1b54814e54bb1", func := "crucible/cruciblelaw21.ReadyTable", spec := "readyTable", inPlace := ["internal/bytealg.IndexByteString", "internal/bytealg.IndexString", "internal/bytealg.CountString", "internal/abi.NoEscape", "internal/bytealg.MakeNoZero"], unfollowed := true, recurses := true, named := ["unicode/utf8.first", "unicode/utf8.acceptRanges", "internal/bytealg.MaxLen"], apart := false, laid := [("unicode/utf8.acceptRanges", laid_unicode_utf8_acceptRanges), ("unicode/utf8.first", laid_unicode_utf8_first)] }
def ReadyTableSaid : Prop := readyTableRow.holds Tryz.pinned (OpenSpec.ofChange readyTableSpec)

/-- ITS FALSE NEIGHBOUR: 'it returns false'. Refute it at one input. -/
def readyTableWrong : ChangeSpec := { name := "readyTable", fn := fun _ => fun
  | [d1, d2, d3, d4] => { results := [.lit (.bool false)], args := [d1, d2, d3, d4] }
  | _ => none }
def ReadyTableWrongFalsely : Prop := readyTableRow.holds Tryz.pinned (OpenSpec.ofChange readyTableWrong)

/-- 'cruciblelaw21.ReadyForms': WHATEVER THE INPUT: true; the input reads as it did. -/
def readyFormsSpec : ChangeSpec := { name := "readyForms", fn := fun _ => fun
  | [d1, d2] => { results := [.lit (.bool true)], args := [d1, d2] }
  | _ => none }
def readyFormsRow : OpenClaim := { program := "ythagoaoenalmbaagreatdoor", sum := "9ad7c9e99c106990f6268575915a308368db8f6992ffe1cccda1b54814e54bb1", func := "crucible/cruciblelaw21.ReadyForms", spec := "readyForms", inPlace := ["internal/bytealg.IndexByteString", "internal/bytealg.IndexString", "internal/bytealg.CountString", "internal/abi.NoEscape", "internal/bytealg.MakeNoZero"], unfollowed := true, recurses := true, named := ["unicode/utf8.first", "unicode/utf8.acceptRanges", "internal/bytealg.MaxLen"], apart := false, laid := [("unicode/utf8.acceptRanges", laid_unicode_utf8_acceptRanges), ("unicode/utf8.first", laid_unicode_utf8_first)] }
def ReadyFormsSaid : Prop := readyFormsRow.holds Tryz.pinned (OpenSpec.ofChange readyFormsSpec)

/-- ITS FALSE NEIGHBOUR: 'it returns false'. Refute it at one input. -/
def readyFormsWrong : ChangeSpec := { name := "readyForms", fn := fun _ => fun
  | [d1, d2] => { results := [.lit (.bool false)], args := [d1, d2] }
  | _ => none }
def ReadyFormsWrongFalsely : Prop := readyFormsRow.holds Tryz.pinned (OpenSpec.ofChange readyFormsWrong)

/-- 'cruciblelaw21.ReadyNeeds': WHATEVER THE INPUT: true; the input reads as it did. -/
def readyNeedsSpec : ChangeSpec := { name := "readyNeeds", fn := fun _ => fun
  | [d1, d2] => { results := [.lit (.bool true)], args := [d1, d2] }
  | _ => none }
def readyNeedsRow : OpenClaim := { program := "ythagoaoenalmbaagreatdoor", sum := "9ad7c9e99c106990f6268575915a308368db8f6992ffe1cccda1b54814e54bb1", func := "crucible/cruciblelaw21.ReadyNeeds", spec := "readyNeeds", inPlace := ["internal/bytealg.IndexByteString", "internal/bytealg.IndexString", "internal/bytealg.CountString", "internal/abi.NoEscape", "internal/bytealg.MakeNoZero"], unfollowed := true, recurses := true, named := ["unicode/utf8.first", "unicode/utf8.acceptRanges", "internal/bytealg.MaxLen"], apart := false, laid := [("unicode/utf8.acceptRanges", laid_unicode_utf8_acceptRanges), ("unicode/utf8.first", laid_unicode_utf8_first)] }
def ReadyNeedsSaid : Prop := readyNeedsRow.holds Tryz.pinned (OpenSpec.ofChange readyNeedsSpec)

/-- ITS FALSE NEIGHBOUR: 'it returns false'. Refute it at one input. -/
def readyNeedsWrong : ChangeSpec := { name := "readyNeeds", fn := fun _ => fun
  | [d1, d2] => { results := [.lit (.bool false)], args := [d1, d2] }
  | _ => none }
def ReadyNeedsWrongFalsely : Prop := readyNeedsRow.holds Tryz.pinned (OpenSpec.ofChange readyNeedsWrong)

/-- 'cruciblelaw22.Rooms': WHATEVER THE INPUT: true; the input reads as it did. -/
def roomsSpec : ChangeSpec := { name := "rooms", fn := fun _ => fun
  | [d1, d2] => { results := [.lit (.bool true)], args := [d1, d2] }
  | _ => none }
def roomsRow : OpenClaim := { program := "ythagoaoenalmbaagreatdoor", sum := "9ad7c9e99c106990f6268575915a308368db8f6992ffe1cccda1b54814e54bb1", func := "crucible/cruciblelaw22.Rooms", spec := "rooms", inPlace := ["internal/bytealg.IndexByteString", "internal/bytealg.IndexString", "internal/bytealg.CountString", "internal/abi.NoEscape", "internal/bytealg.MakeNoZero"], unfollowed := true, recurses := true, named := ["unicode/utf8.first", "unicode/utf8.acceptRanges", "internal/bytealg.MaxLen"], apart := false, laid := [("unicode/utf8.acceptRanges", laid_unicode_utf8_acceptRanges), ("unicode/utf8.first", laid_unicode_utf8_first)] }
def RoomsSaid : Prop := roomsRow.holds Tryz.pinned (OpenSpec.ofChange roomsSpec)

/-- ITS FALSE NEIGHBOUR: 'it returns false'. Refute it at one input. -/
def roomsWrong : ChangeSpec := { name := "rooms", fn := fun _ => fun
  | [d1, d2] => { results := [.lit (.bool false)], args := [d1, d2] }
  | _ => none }
def RoomsWrongFalsely : Prop := roomsRow.holds Tryz.pinned (OpenSpec.ofChange roomsWrong)

/-- 'cruciblelaw22.RoomTable': WHATEVER THE INPUT: true; the input reads as it did. -/
def roomTableSpec : ChangeSpec := { name := "roomTable", fn := fun _ => fun
  | [d1, d2, d3, d4, d5] => { results := [.lit (.bool true)], args := [d1, d2, d3, d4, d5] }
  | _ => none }
def roomTableRow : OpenClaim := { program := "ythagoaoenalmbaagreatdoor", sum := "9ad7c9e99c106990f6268575915a308368db8f6992ffe1cccda1b54814e54bb1", func := "crucible/cruciblelaw22.RoomTable", spec := "roomTable", inPlace := ["internal/bytealg.IndexByteString", "internal/bytealg.IndexString", "internal/bytealg.CountString", "internal/abi.NoEscape", "internal/bytealg.MakeNoZero"], unfollowed := true, recurses := true, named := ["unicode/utf8.first", "unicode/utf8.acceptRanges", "internal/bytealg.MaxLen"], apart := false, laid := [("unicode/utf8.acceptRanges", laid_unicode_utf8_acceptRanges), ("unicode/utf8.first", laid_unicode_utf8_first)] }
def RoomTableSaid : Prop := roomTableRow.holds Tryz.pinned (OpenSpec.ofChange roomTableSpec)

/-- ITS FALSE NEIGHBOUR: 'it returns false'. Refute it at one input. -/
def roomTableWrong : ChangeSpec := { name := "roomTable", fn := fun _ => fun
  | [d1, d2, d3, d4, d5] => { results := [.lit (.bool false)], args := [d1, d2, d3, d4, d5] }
  | _ => none }
def RoomTableWrongFalsely : Prop := roomTableRow.holds Tryz.pinned (OpenSpec.ofChange roomTableWrong)

/-- 'cruciblelaw22.RoomForms': WHATEVER THE INPUT: true; the input reads as it did. -/
def roomFormsSpec : ChangeSpec := { name := "roomForms", fn := fun _ => fun
  | [d1, d2] => { results := [.lit (.bool true)], args := [d1, d2] }
  | _ => none }
def roomFormsRow : OpenClaim := { program := "ythagoaoenalmbaagreatdoor", sum := "9ad7c9e99c106990f6268575915a308368db8f6992ffe1cccda1b54814e54bb1", func := "crucible/cruciblelaw22.RoomForms", spec := "roomForms", inPlace := ["internal/bytealg.IndexByteString", "internal/bytealg.IndexString", "internal/bytealg.CountString", "internal/abi.NoEscape", "internal/bytealg.MakeNoZero"], unfollowed := true, recurses := true, named := ["unicode/utf8.first", "unicode/utf8.acceptRanges", "internal/bytealg.MaxLen"], apart := false, laid := [("unicode/utf8.acceptRanges", laid_unicode_utf8_acceptRanges), ("unicode/utf8.first", laid_unicode_utf8_first)] }
def RoomFormsSaid : Prop := roomFormsRow.holds Tryz.pinned (OpenSpec.ofChange roomFormsSpec)

/-- ITS FALSE NEIGHBOUR: 'it returns false'. Refute it at one input. -/
def roomFormsWrong : ChangeSpec := { name := "roomForms", fn := fun _ => fun
  | [d1, d2] => { results := [.lit (.bool false)], args := [d1, d2] }
  | _ => none }
def RoomFormsWrongFalsely : Prop := roomFormsRow.holds Tryz.pinned (OpenSpec.ofChange roomFormsWrong)

/-- 'cruciblelaw22.RoomLess': WHATEVER THE INPUT: true; the input reads as it did. -/
def roomLessSpec : ChangeSpec := { name := "roomLess", fn := fun _ => fun
  | [d1, d2, d3] => { results := [.lit (.bool true)], args := [d1, d2, d3] }
  | _ => none }
def roomLessRow : OpenClaim := { program := "ythagoaoenalmbaagreatdoor", sum := "9ad7c9e99c106990f6268575915a308368db8f6992ffe1cccda1b54814e54bb1", func := "crucible/cruciblelaw22.RoomLess", spec := "roomLess", inPlace := ["internal/bytealg.IndexByteString", "internal/bytealg.IndexString", "internal/bytealg.CountString", "internal/abi.NoEscape", "internal/bytealg.MakeNoZero"], unfollowed := true, recurses := true, named := ["unicode/utf8.first", "unicode/utf8.acceptRanges", "internal/bytealg.MaxLen"], apart := false, laid := [("unicode/utf8.acceptRanges", laid_unicode_utf8_acceptRanges), ("unicode/utf8.first", laid_unicode_utf8_first)] }
def RoomLessSaid : Prop := roomLessRow.holds Tryz.pinned (OpenSpec.ofChange roomLessSpec)

/-- ITS FALSE NEIGHBOUR: 'it returns false'. Refute it at one input. -/
def roomLessWrong : ChangeSpec := { name := "roomLess", fn := fun _ => fun
  | [d1, d2, d3] => { results := [.lit (.bool false)], args := [d1, d2, d3] }
  | _ => none }
def RoomLessWrongFalsely : Prop := roomLessRow.holds Tryz.pinned (OpenSpec.ofChange roomLessWrong)

/- THE SECOND FORM. 'bulk': how many values and letters a reading holds, each counted each time it is reached (what is shared counts as often as it is met; a slice's spare places count too). A statement '..UptoSaid' is the law's where the arguments, and the package variables that the reading takes, are together of bulk at most 1048576: NARROWER than '..Said'. Prove '..Said' where nothing that the law and all that it calls make is longer than what came in: it says more and counts as full. Else prove '..UptoSaid'. A law counts once. -/
mutual
def uptoBulk {H : Type} : DataW H → Nat
  | .lit (.string bytes) => bytes.length + 1
  | .lit _ => 1
  | .nil => 1
  | .ptr d => uptoBulk d + 1
  | .slice elems spare => uptoBulkAll elems + uptoBulkAll spare + 1
  | .agg parts => uptoBulkAll parts + 1
  | .iface _ d => uptoBulk d + 1
  | .map entries => uptoBulkEntries entries + 1
  | .held _ => 1
def uptoBulkAll {H : Type} : List (DataW H) → Nat
  | [] => 0
  | d :: r => uptoBulk d + uptoBulkAll r
def uptoBulkEntries {H : Type} : List (Lit × DataW H) → Nat
  | [] => 0
  | x :: r => uptoBulkEntry x + uptoBulkEntries r
def uptoBulkEntry {H : Type} : Lit × DataW H → Nat
  | (.string bytes, d) => bytes.length + uptoBulk d + 1
  | (_, d) => uptoBulk d + 1
 end
def uptoSmall : (H : Type) → List (DataW H) → Bool := fun _ ds => decide (uptoBulkAll ds ≤ 1048576)
def OpenSpec.upto (s : _root_.Go.ChangeSpec) : _root_.Go.OpenSpec := { _root_.Go.OpenSpec.ofChange s with cond := some uptoSmall }

/-- 'cruciblelaw9.Graphs', WHERE WHAT IT READS IS OF BULK AT MOST 1048576: true; the input reads as it did. -/
def graphsUptoRow : OpenClaim := { program := "ythagoaoenalmbaagreatdoor", sum := "9ad7c9e99c106990f6268575915a308368db8f6992ffe1cccda1b54814e54bb1", func := "crucible/cruciblelaw9.Graphs", spec := "graphs", inPlace := ["internal/bytealg.IndexByteString", "internal/bytealg.IndexString", "internal/bytealg.CountString", "internal/abi.NoEscape", "internal/bytealg.MakeNoZero"], unfollowed := true, recurses := true, named := ["unicode/utf8.first", "unicode/utf8.acceptRanges", "internal/bytealg.MaxLen"], apart := false, laid := [("unicode/utf8.acceptRanges", laid_unicode_utf8_acceptRanges), ("unicode/utf8.first", laid_unicode_utf8_first)], narrowed := true }
def GraphsUptoSaid : Prop := graphsUptoRow.holds Tryz.pinned (OpenSpec.upto graphsSpec)

/-- 'cruciblelaw10.Orders', WHERE WHAT IT READS IS OF BULK AT MOST 1048576: true; the input reads as it did. -/
def ordersUptoRow : OpenClaim := { program := "ythagoaoenalmbaagreatdoor", sum := "9ad7c9e99c106990f6268575915a308368db8f6992ffe1cccda1b54814e54bb1", func := "crucible/cruciblelaw10.Orders", spec := "orders", inPlace := ["internal/bytealg.IndexByteString", "internal/bytealg.IndexString", "internal/bytealg.CountString", "internal/abi.NoEscape", "internal/bytealg.MakeNoZero"], unfollowed := true, recurses := true, named := ["unicode/utf8.first", "unicode/utf8.acceptRanges", "internal/bytealg.MaxLen"], apart := false, laid := [("unicode/utf8.acceptRanges", laid_unicode_utf8_acceptRanges), ("unicode/utf8.first", laid_unicode_utf8_first)], narrowed := true }
def OrdersUptoSaid : Prop := ordersUptoRow.holds Tryz.pinned (OpenSpec.upto ordersSpec)

/-- 'cruciblelaw20.Wants', WHERE WHAT IT READS IS OF BULK AT MOST 1048576: true; the input reads as it did. -/
def wantsUptoRow : OpenClaim := { program := "ythagoaoenalmbaagreatdoor", sum := "9ad7c9e99c106990f6268575915a308368db8f6992ffe1cccda1b54814e54bb1", func := "crucible/cruciblelaw20.Wants", spec := "wants", inPlace := ["internal/bytealg.IndexByteString", "internal/bytealg.IndexString", "internal/bytealg.CountString", "internal/abi.NoEscape", "internal/bytealg.MakeNoZero"], unfollowed := true, recurses := true, named := ["unicode/utf8.first", "unicode/utf8.acceptRanges", "internal/bytealg.MaxLen"], apart := false, laid := [("unicode/utf8.acceptRanges", laid_unicode_utf8_acceptRanges), ("unicode/utf8.first", laid_unicode_utf8_first)], narrowed := true }
def WantsUptoSaid : Prop := wantsUptoRow.holds Tryz.pinned (OpenSpec.upto wantsSpec)

/-- 'cruciblelaw21.Readies', WHERE WHAT IT READS IS OF BULK AT MOST 1048576: true; the input reads as it did. -/
def readiesUptoRow : OpenClaim := { program := "ythagoaoenalmbaagreatdoor", sum := "9ad7c9e99c106990f6268575915a308368db8f6992ffe1cccda1b54814e54bb1", func := "crucible/cruciblelaw21.Readies", spec := "readies", inPlace := ["internal/bytealg.IndexByteString", "internal/bytealg.IndexString", "internal/bytealg.CountString", "internal/abi.NoEscape", "internal/bytealg.MakeNoZero"], unfollowed := true, recurses := true, named := ["unicode/utf8.first", "unicode/utf8.acceptRanges", "internal/bytealg.MaxLen"], apart := false, laid := [("unicode/utf8.acceptRanges", laid_unicode_utf8_acceptRanges), ("unicode/utf8.first", laid_unicode_utf8_first)], narrowed := true }
def ReadiesUptoSaid : Prop := readiesUptoRow.holds Tryz.pinned (OpenSpec.upto readiesSpec)

/-- 'cruciblelaw21.ReadyTable', WHERE WHAT IT READS IS OF BULK AT MOST 1048576: true; the input reads as it did. -/
def readyTableUptoRow : OpenClaim := { program := "ythagoaoenalmbaagreatdoor", sum := "9ad7c9e99c106990f6268575915a308368db8f6992ffe1cccda1b54814e54bb1", func := "crucible/cruciblelaw21.ReadyTable", spec := "readyTable", inPlace := ["internal/bytealg.IndexByteString", "internal/bytealg.IndexString", "internal/bytealg.CountString", "internal/abi.NoEscape", "internal/bytealg.MakeNoZero"], unfollowed := true, recurses := true, named := ["unicode/utf8.first", "unicode/utf8.acceptRanges", "internal/bytealg.MaxLen"], apart := false, laid := [("unicode/utf8.acceptRanges", laid_unicode_utf8_acceptRanges), ("unicode/utf8.first", laid_unicode_utf8_first)], narrowed := true }
def ReadyTableUptoSaid : Prop := readyTableUptoRow.holds Tryz.pinned (OpenSpec.upto readyTableSpec)

/-- 'cruciblelaw21.ReadyForms', WHERE WHAT IT READS IS OF BULK AT MOST 1048576: true; the input reads as it did. -/
def readyFormsUptoRow : OpenClaim := { program := "ythagoaoenalmbaagreatdoor", sum := "9ad7c9e99c106990f6268575915a308368db8f6992ffe1cccda1b54814e54bb1", func := "crucible/cruciblelaw21.ReadyForms", spec := "readyForms", inPlace := ["internal/bytealg.IndexByteString", "internal/bytealg.IndexString", "internal/bytealg.CountString", "internal/abi.NoEscape", "internal/bytealg.MakeNoZero"], unfollowed := true, recurses := true, named := ["unicode/utf8.first", "unicode/utf8.acceptRanges", "internal/bytealg.MaxLen"], apart := false, laid := [("unicode/utf8.acceptRanges", laid_unicode_utf8_acceptRanges), ("unicode/utf8.first", laid_unicode_utf8_first)], narrowed := true }
def ReadyFormsUptoSaid : Prop := readyFormsUptoRow.holds Tryz.pinned (OpenSpec.upto readyFormsSpec)

/-- 'cruciblelaw21.ReadyNeeds', WHERE WHAT IT READS IS OF BULK AT MOST 1048576: true; the input reads as it did. -/
def readyNeedsUptoRow : OpenClaim := { program := "ythagoaoenalmbaagreatdoor", sum := "9ad7c9e99c106990f6268575915a308368db8f6992ffe1cccda1b54814e54bb1", func := "crucible/cruciblelaw21.ReadyNeeds", spec := "readyNeeds", inPlace := ["internal/bytealg.IndexByteString", "internal/bytealg.IndexString", "internal/bytealg.CountString", "internal/abi.NoEscape", "internal/bytealg.MakeNoZero"], unfollowed := true, recurses := true, named := ["unicode/utf8.first", "unicode/utf8.acceptRanges", "internal/bytealg.MaxLen"], apart := false, laid := [("unicode/utf8.acceptRanges", laid_unicode_utf8_acceptRanges), ("unicode/utf8.first", laid_unicode_utf8_first)], narrowed := true }
def ReadyNeedsUptoSaid : Prop := readyNeedsUptoRow.holds Tryz.pinned (OpenSpec.upto readyNeedsSpec)

/-- 'cruciblelaw22.Rooms', WHERE WHAT IT READS IS OF BULK AT MOST 1048576: true; the input reads as it did. -/
def roomsUptoRow : OpenClaim := { program := "ythagoaoenalmbaagreatdoor", sum := "9ad7c9e99c106990f6268575915a308368db8f6992ffe1cccda1b54814e54bb1", func := "crucible/cruciblelaw22.Rooms", spec := "rooms", inPlace := ["internal/bytealg.IndexByteString", "internal/bytealg.IndexString", "internal/bytealg.CountString", "internal/abi.NoEscape", "internal/bytealg.MakeNoZero"], unfollowed := true, recurses := true, named := ["unicode/utf8.first", "unicode/utf8.acceptRanges", "internal/bytealg.MaxLen"], apart := false, laid := [("unicode/utf8.acceptRanges", laid_unicode_utf8_acceptRanges), ("unicode/utf8.first", laid_unicode_utf8_first)], narrowed := true }
def RoomsUptoSaid : Prop := roomsUptoRow.holds Tryz.pinned (OpenSpec.upto roomsSpec)

/-- 'cruciblelaw22.RoomTable', WHERE WHAT IT READS IS OF BULK AT MOST 1048576: true; the input reads as it did. -/
def roomTableUptoRow : OpenClaim := { program := "ythagoaoenalmbaagreatdoor", sum := "9ad7c9e99c106990f6268575915a308368db8f6992ffe1cccda1b54814e54bb1", func := "crucible/cruciblelaw22.RoomTable", spec := "roomTable", inPlace := ["internal/bytealg.IndexByteString", "internal/bytealg.IndexString", "internal/bytealg.CountString", "internal/abi.NoEscape", "internal/bytealg.MakeNoZero"], unfollowed := true, recurses := true, named := ["unicode/utf8.first", "unicode/utf8.acceptRanges", "internal/bytealg.MaxLen"], apart := false, laid := [("unicode/utf8.acceptRanges", laid_unicode_utf8_acceptRanges), ("unicode/utf8.first", laid_unicode_utf8_first)], narrowed := true }
def RoomTableUptoSaid : Prop := roomTableUptoRow.holds Tryz.pinned (OpenSpec.upto roomTableSpec)

/-- 'cruciblelaw22.RoomForms', WHERE WHAT IT READS IS OF BULK AT MOST 1048576: true; the input reads as it did. -/
def roomFormsUptoRow : OpenClaim := { program := "ythagoaoenalmbaagreatdoor", sum := "9ad7c9e99c106990f6268575915a308368db8f6992ffe1cccda1b54814e54bb1", func := "crucible/cruciblelaw22.RoomForms", spec := "roomForms", inPlace := ["internal/bytealg.IndexByteString", "internal/bytealg.IndexString", "internal/bytealg.CountString", "internal/abi.NoEscape", "internal/bytealg.MakeNoZero"], unfollowed := true, recurses := true, named := ["unicode/utf8.first", "unicode/utf8.acceptRanges", "internal/bytealg.MaxLen"], apart := false, laid := [("unicode/utf8.acceptRanges", laid_unicode_utf8_acceptRanges), ("unicode/utf8.first", laid_unicode_utf8_first)], narrowed := true }
def RoomFormsUptoSaid : Prop := roomFormsUptoRow.holds Tryz.pinned (OpenSpec.upto roomFormsSpec)

/-- 'cruciblelaw22.RoomLess', WHERE WHAT IT READS IS OF BULK AT MOST 1048576: true; the input reads as it did. -/
def roomLessUptoRow : OpenClaim := { program := "ythagoaoenalmbaagreatdoor", sum := "9ad7c9e99c106990f6268575915a308368db8f6992ffe1cccda1b54814e54bb1", func := "crucible/cruciblelaw22.RoomLess", spec := "roomLess", inPlace := ["internal/bytealg.IndexByteString", "internal/bytealg.IndexString", "internal/bytealg.CountString", "internal/abi.NoEscape", "internal/bytealg.MakeNoZero"], unfollowed := true, recurses := true, named := ["unicode/utf8.first", "unicode/utf8.acceptRanges", "internal/bytealg.MaxLen"], apart := false, laid := [("unicode/utf8.acceptRanges", laid_unicode_utf8_acceptRanges), ("unicode/utf8.first", laid_unicode_utf8_first)], narrowed := true }
def RoomLessUptoSaid : Prop := roomLessUptoRow.holds Tryz.pinned (OpenSpec.upto roomLessSpec)

end Rows
end Go.Proofs.YthagoaoenalmbaaGreatDoor

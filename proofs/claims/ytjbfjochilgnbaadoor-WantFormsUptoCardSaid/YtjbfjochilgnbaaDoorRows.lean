/-
  NARROWER THAN 'FOR EVERY INPUT', by the rows' own cells (each row's printed sentence says how): GraphForms: laid · GraphMany: laid · GraphMakes: laid · GraphRow: laid · OrderNeeds: laid · OrderCycles: laid · OrderLess: laid · OrderPlain: laid · WantForms: laid · WantNeeds: laid · WantMore: laid · WantAll: laid.
  DERIVED. THE GIVEN ROWS OF THIS SEAT. 12 by the template 'for every input the law returns true; each argument reads behind the call as it read before'; 0 by the template 'total and deterministic' (their statements: YtjbfjochilgnbaaDoorTotals.lean).
  GIVEN WITH THE SEED: the statements are not yours to turn. If you find one false, say at which input.
  Laid BY PROGRAM, IN A SANDBOX (cutbox-rows.mjs): the forced cells as the released guide's own fill.sh prints them over the translation a5deb7ff8eedf435… (all of the seat's roots in one cut). By AI agents, Wed Nov 11 2026. No macro, syntax, notation, axiom, sorry.
-/
import Derived.Test.YtjbfjochilgnbaaDoorChecked
import GoSem.PinnedTables
import GoSem.Claim
import GoSem.ClaimJoined
import GoSem.ClaimMapViews
import Derived.JoinedTies
import Derived.KernelRfl
namespace Go.Proofs.YtjbfjochilgnbaaDoor
/- THE CELL 'sum', in the pinned program and in every row, IS THE sha256 OF THE DUMP (.gsa) THAT YtjbfjochilgnbaaDoorProg.lean LOADS. Nothing in Lean hashes anything: it is a label: what it is worth is what the hold of that sum in a sandbox is worth. -/
noncomputable def Tryd.pinned : Pinned := { name := "ytjbfjochilgnbaadoor", sum := "a5deb7ff8eedf4357b65a1300e413bed8cc752696a7056719cccfbf7103871ec", checked := Tryd.checked }
namespace Rows
def none {H : Type} : Left H := { results := [], args := [] }

/- WHAT THE LISTED PACKAGE-LEVEL VARIABLES READ AS WHEN THE CALL BEGINS. Each datum BY PROGRAM (the guide's laid-datum.mjs) off the statement by which the dump's own 'gosem.cut.vars' lays the variable. In a bare row this is a premise. The card (YtjbfjochilgnbaaDoorCards.lean) ties it to the program's text. -/
def laid_unicode_utf8_acceptRanges {H : Type} : DataW H := .agg [.agg [.lit (.int .u8 128), .lit (.int .u8 191)], .agg [.lit (.int .u8 160), .lit (.int .u8 191)], .agg [.lit (.int .u8 128), .lit (.int .u8 159)], .agg [.lit (.int .u8 144), .lit (.int .u8 191)], .agg [.lit (.int .u8 128), .lit (.int .u8 143)], .agg [.lit (.int .u8 0), .lit (.int .u8 0)], .agg [.lit (.int .u8 0), .lit (.int .u8 0)], .agg [.lit (.int .u8 0), .lit (.int .u8 0)], .agg [.lit (.int .u8 0), .lit (.int .u8 0)], .agg [.lit (.int .u8 0), .lit (.int .u8 0)], .agg [.lit (.int .u8 0), .lit (.int .u8 0)], .agg [.lit (.int .u8 0), .lit (.int .u8 0)], .agg [.lit (.int .u8 0), .lit (.int .u8 0)], .agg [.lit (.int .u8 0), .lit (.int .u8 0)], .agg [.lit (.int .u8 0), .lit (.int .u8 0)], .agg [.lit (.int .u8 0), .lit (.int .u8 0)]]
/-- One of Go's own tables, pinned by name: the form's constant. -/
def laid_unicode_utf8_first : DataW Unit := Go.Pinned.utf8First

/-- 'cruciblelaw9.GraphForms': WHATEVER THE INPUT: true; the input reads as it did. -/
def graphFormsSpec : ChangeSpec := { name := "graphForms", fn := fun _ => fun
  | [d1, d2] => { results := [.lit (.bool true)], args := [d1, d2] }
  | _ => none }
def graphFormsRow : OpenClaim := { program := "ytjbfjochilgnbaadoor", sum := "a5deb7ff8eedf4357b65a1300e413bed8cc752696a7056719cccfbf7103871ec", func := "crucible/cruciblelaw9.GraphForms", spec := "graphForms", inPlace := ["internal/bytealg.IndexByteString", "internal/bytealg.IndexString", "internal/bytealg.CountString", "internal/abi.NoEscape", "internal/bytealg.MakeNoZero"], unfollowed := true, recurses := true, named := ["unicode/utf8.first", "unicode/utf8.acceptRanges", "internal/bytealg.MaxLen"], apart := false, laid := [("unicode/utf8.acceptRanges", laid_unicode_utf8_acceptRanges), ("unicode/utf8.first", laid_unicode_utf8_first)] }
def GraphFormsSaid : Prop := graphFormsRow.holds Tryd.pinned (OpenSpec.ofChange graphFormsSpec)

/-- ITS FALSE NEIGHBOUR: 'it returns false'. Refute it at one input. -/
def graphFormsWrong : ChangeSpec := { name := "graphForms", fn := fun _ => fun
  | [d1, d2] => { results := [.lit (.bool false)], args := [d1, d2] }
  | _ => none }
def GraphFormsWrongFalsely : Prop := graphFormsRow.holds Tryd.pinned (OpenSpec.ofChange graphFormsWrong)

/-- 'cruciblelaw9.GraphMany': WHATEVER THE INPUT: true; the input reads as it did. -/
def graphManySpec : ChangeSpec := { name := "graphMany", fn := fun _ => fun
  | [d1, d2] => { results := [.lit (.bool true)], args := [d1, d2] }
  | _ => none }
def graphManyRow : OpenClaim := { program := "ytjbfjochilgnbaadoor", sum := "a5deb7ff8eedf4357b65a1300e413bed8cc752696a7056719cccfbf7103871ec", func := "crucible/cruciblelaw9.GraphMany", spec := "graphMany", inPlace := ["internal/bytealg.IndexByteString", "internal/bytealg.IndexString", "internal/bytealg.CountString", "internal/abi.NoEscape", "internal/bytealg.MakeNoZero"], unfollowed := true, recurses := true, named := ["unicode/utf8.first", "unicode/utf8.acceptRanges", "internal/bytealg.MaxLen"], apart := false, laid := [("unicode/utf8.acceptRanges", laid_unicode_utf8_acceptRanges), ("unicode/utf8.first", laid_unicode_utf8_first)] }
def GraphManySaid : Prop := graphManyRow.holds Tryd.pinned (OpenSpec.ofChange graphManySpec)

/-- ITS FALSE NEIGHBOUR: 'it returns false'. Refute it at one input. -/
def graphManyWrong : ChangeSpec := { name := "graphMany", fn := fun _ => fun
  | [d1, d2] => { results := [.lit (.bool false)], args := [d1, d2] }
  | _ => none }
def GraphManyWrongFalsely : Prop := graphManyRow.holds Tryd.pinned (OpenSpec.ofChange graphManyWrong)

/-- 'cruciblelaw9.GraphMakes': WHATEVER THE INPUT: true; the input reads as it did. -/
def graphMakesSpec : ChangeSpec := { name := "graphMakes", fn := fun _ => fun
  | [d1, d2] => { results := [.lit (.bool true)], args := [d1, d2] }
  | _ => none }
def graphMakesRow : OpenClaim := { program := "ytjbfjochilgnbaadoor", sum := "a5deb7ff8eedf4357b65a1300e413bed8cc752696a7056719cccfbf7103871ec", func := "crucible/cruciblelaw9.GraphMakes", spec := "graphMakes", inPlace := ["internal/bytealg.IndexByteString", "internal/bytealg.IndexString", "internal/bytealg.CountString", "internal/abi.NoEscape", "internal/bytealg.MakeNoZero"], unfollowed := true, recurses := true, named := ["unicode/utf8.first", "unicode/utf8.acceptRanges", "internal/bytealg.MaxLen"], apart := false, laid := [("unicode/utf8.acceptRanges", laid_unicode_utf8_acceptRanges), ("unicode/utf8.first", laid_unicode_utf8_first)] }
def GraphMakesSaid : Prop := graphMakesRow.holds Tryd.pinned (OpenSpec.ofChange graphMakesSpec)

/-- ITS FALSE NEIGHBOUR: 'it returns false'. Refute it at one input. -/
def graphMakesWrong : ChangeSpec := { name := "graphMakes", fn := fun _ => fun
  | [d1, d2] => { results := [.lit (.bool false)], args := [d1, d2] }
  | _ => none }
def GraphMakesWrongFalsely : Prop := graphMakesRow.holds Tryd.pinned (OpenSpec.ofChange graphMakesWrong)

/-- 'cruciblelaw9.GraphRow': WHATEVER THE INPUT: true; the input reads as it did. -/
def graphRowSpec : ChangeSpec := { name := "graphRow", fn := fun _ => fun
  | [d1, d2, d3] => { results := [.lit (.bool true)], args := [d1, d2, d3] }
  | _ => none }
def graphRowRow : OpenClaim := { program := "ytjbfjochilgnbaadoor", sum := "a5deb7ff8eedf4357b65a1300e413bed8cc752696a7056719cccfbf7103871ec", func := "crucible/cruciblelaw9.GraphRow", spec := "graphRow", inPlace := ["internal/bytealg.IndexByteString", "internal/bytealg.IndexString", "internal/bytealg.CountString", "internal/abi.NoEscape", "internal/bytealg.MakeNoZero"], unfollowed := true, recurses := true, named := ["unicode/utf8.first", "unicode/utf8.acceptRanges", "internal/bytealg.MaxLen"], apart := false, laid := [("unicode/utf8.acceptRanges", laid_unicode_utf8_acceptRanges), ("unicode/utf8.first", laid_unicode_utf8_first)] }
def GraphRowSaid : Prop := graphRowRow.holds Tryd.pinned (OpenSpec.ofChange graphRowSpec)

/-- ITS FALSE NEIGHBOUR: 'it returns false'. Refute it at one input. -/
def graphRowWrong : ChangeSpec := { name := "graphRow", fn := fun _ => fun
  | [d1, d2, d3] => { results := [.lit (.bool false)], args := [d1, d2, d3] }
  | _ => none }
def GraphRowWrongFalsely : Prop := graphRowRow.holds Tryd.pinned (OpenSpec.ofChange graphRowWrong)

/-- 'cruciblelaw10.OrderNeeds': WHATEVER THE INPUT: true; the input reads as it did. -/
def orderNeedsSpec : ChangeSpec := { name := "orderNeeds", fn := fun _ => fun
  | [d] => { results := [.lit (.bool true)], args := [d] }
  | _ => none }
def orderNeedsRow : OpenClaim := { program := "ytjbfjochilgnbaadoor", sum := "a5deb7ff8eedf4357b65a1300e413bed8cc752696a7056719cccfbf7103871ec", func := "crucible/cruciblelaw10.OrderNeeds", spec := "orderNeeds", inPlace := ["internal/bytealg.IndexByteString", "internal/bytealg.IndexString", "internal/bytealg.CountString", "internal/abi.NoEscape", "internal/bytealg.MakeNoZero"], unfollowed := true, recurses := true, named := ["unicode/utf8.first", "unicode/utf8.acceptRanges", "internal/bytealg.MaxLen"], apart := false, laid := [("unicode/utf8.acceptRanges", laid_unicode_utf8_acceptRanges), ("unicode/utf8.first", laid_unicode_utf8_first)] }
def OrderNeedsSaid : Prop := orderNeedsRow.holds Tryd.pinned (OpenSpec.ofChange orderNeedsSpec)

/-- ITS FALSE NEIGHBOUR: 'it returns false'. Refute it at one input. -/
def orderNeedsWrong : ChangeSpec := { name := "orderNeeds", fn := fun _ => fun
  | [d] => { results := [.lit (.bool false)], args := [d] }
  | _ => none }
def OrderNeedsWrongFalsely : Prop := orderNeedsRow.holds Tryd.pinned (OpenSpec.ofChange orderNeedsWrong)

/-- 'cruciblelaw10.OrderCycles': WHATEVER THE INPUT: true; the input reads as it did. -/
def orderCyclesSpec : ChangeSpec := { name := "orderCycles", fn := fun _ => fun
  | [d1, d2] => { results := [.lit (.bool true)], args := [d1, d2] }
  | _ => none }
def orderCyclesRow : OpenClaim := { program := "ytjbfjochilgnbaadoor", sum := "a5deb7ff8eedf4357b65a1300e413bed8cc752696a7056719cccfbf7103871ec", func := "crucible/cruciblelaw10.OrderCycles", spec := "orderCycles", inPlace := ["internal/bytealg.IndexByteString", "internal/bytealg.IndexString", "internal/bytealg.CountString", "internal/abi.NoEscape", "internal/bytealg.MakeNoZero"], unfollowed := true, recurses := true, named := ["unicode/utf8.first", "unicode/utf8.acceptRanges", "internal/bytealg.MaxLen"], apart := false, laid := [("unicode/utf8.acceptRanges", laid_unicode_utf8_acceptRanges), ("unicode/utf8.first", laid_unicode_utf8_first)] }
def OrderCyclesSaid : Prop := orderCyclesRow.holds Tryd.pinned (OpenSpec.ofChange orderCyclesSpec)

/-- ITS FALSE NEIGHBOUR: 'it returns false'. Refute it at one input. -/
def orderCyclesWrong : ChangeSpec := { name := "orderCycles", fn := fun _ => fun
  | [d1, d2] => { results := [.lit (.bool false)], args := [d1, d2] }
  | _ => none }
def OrderCyclesWrongFalsely : Prop := orderCyclesRow.holds Tryd.pinned (OpenSpec.ofChange orderCyclesWrong)

/-- 'cruciblelaw10.OrderLess': WHATEVER THE INPUT: true; the input reads as it did. -/
def orderLessSpec : ChangeSpec := { name := "orderLess", fn := fun _ => fun
  | [d1, d2] => { results := [.lit (.bool true)], args := [d1, d2] }
  | _ => none }
def orderLessRow : OpenClaim := { program := "ytjbfjochilgnbaadoor", sum := "a5deb7ff8eedf4357b65a1300e413bed8cc752696a7056719cccfbf7103871ec", func := "crucible/cruciblelaw10.OrderLess", spec := "orderLess", inPlace := ["internal/bytealg.IndexByteString", "internal/bytealg.IndexString", "internal/bytealg.CountString", "internal/abi.NoEscape", "internal/bytealg.MakeNoZero"], unfollowed := true, recurses := true, named := ["unicode/utf8.first", "unicode/utf8.acceptRanges", "internal/bytealg.MaxLen"], apart := false, laid := [("unicode/utf8.acceptRanges", laid_unicode_utf8_acceptRanges), ("unicode/utf8.first", laid_unicode_utf8_first)] }
def OrderLessSaid : Prop := orderLessRow.holds Tryd.pinned (OpenSpec.ofChange orderLessSpec)

/-- ITS FALSE NEIGHBOUR: 'it returns false'. Refute it at one input. -/
def orderLessWrong : ChangeSpec := { name := "orderLess", fn := fun _ => fun
  | [d1, d2] => { results := [.lit (.bool false)], args := [d1, d2] }
  | _ => none }
def OrderLessWrongFalsely : Prop := orderLessRow.holds Tryd.pinned (OpenSpec.ofChange orderLessWrong)

/-- 'cruciblelaw10.OrderPlain': WHATEVER THE INPUT: true; the input reads as it did. -/
def orderPlainSpec : ChangeSpec := { name := "orderPlain", fn := fun _ => fun
  | [d1, d2] => { results := [.lit (.bool true)], args := [d1, d2] }
  | _ => none }
def orderPlainRow : OpenClaim := { program := "ytjbfjochilgnbaadoor", sum := "a5deb7ff8eedf4357b65a1300e413bed8cc752696a7056719cccfbf7103871ec", func := "crucible/cruciblelaw10.OrderPlain", spec := "orderPlain", inPlace := ["internal/bytealg.IndexByteString", "internal/bytealg.IndexString", "internal/bytealg.CountString", "internal/abi.NoEscape", "internal/bytealg.MakeNoZero"], unfollowed := true, recurses := true, named := ["unicode/utf8.first", "unicode/utf8.acceptRanges", "internal/bytealg.MaxLen"], apart := false, laid := [("unicode/utf8.acceptRanges", laid_unicode_utf8_acceptRanges), ("unicode/utf8.first", laid_unicode_utf8_first)] }
def OrderPlainSaid : Prop := orderPlainRow.holds Tryd.pinned (OpenSpec.ofChange orderPlainSpec)

/-- ITS FALSE NEIGHBOUR: 'it returns false'. Refute it at one input. -/
def orderPlainWrong : ChangeSpec := { name := "orderPlain", fn := fun _ => fun
  | [d1, d2] => { results := [.lit (.bool false)], args := [d1, d2] }
  | _ => none }
def OrderPlainWrongFalsely : Prop := orderPlainRow.holds Tryd.pinned (OpenSpec.ofChange orderPlainWrong)

/-- 'cruciblelaw20.WantForms': WHATEVER THE INPUT: true; the input reads as it did. -/
def wantFormsSpec : ChangeSpec := { name := "wantForms", fn := fun _ => fun
  | [d] => { results := [.lit (.bool true)], args := [d] }
  | _ => none }
def wantFormsRow : OpenClaim := { program := "ytjbfjochilgnbaadoor", sum := "a5deb7ff8eedf4357b65a1300e413bed8cc752696a7056719cccfbf7103871ec", func := "crucible/cruciblelaw20.WantForms", spec := "wantForms", inPlace := ["internal/bytealg.IndexByteString", "internal/bytealg.IndexString", "internal/bytealg.CountString", "internal/abi.NoEscape", "internal/bytealg.MakeNoZero"], unfollowed := true, recurses := true, named := ["unicode/utf8.first", "unicode/utf8.acceptRanges", "internal/bytealg.MaxLen"], apart := false, laid := [("unicode/utf8.acceptRanges", laid_unicode_utf8_acceptRanges), ("unicode/utf8.first", laid_unicode_utf8_first)] }
def WantFormsSaid : Prop := wantFormsRow.holds Tryd.pinned (OpenSpec.ofChange wantFormsSpec)

/-- ITS FALSE NEIGHBOUR: 'it returns false'. Refute it at one input. -/
def wantFormsWrong : ChangeSpec := { name := "wantForms", fn := fun _ => fun
  | [d] => { results := [.lit (.bool false)], args := [d] }
  | _ => none }
def WantFormsWrongFalsely : Prop := wantFormsRow.holds Tryd.pinned (OpenSpec.ofChange wantFormsWrong)

/-- 'cruciblelaw20.WantNeeds': WHATEVER THE INPUT: true; the input reads as it did. -/
def wantNeedsSpec : ChangeSpec := { name := "wantNeeds", fn := fun _ => fun
  | [d1, d2] => { results := [.lit (.bool true)], args := [d1, d2] }
  | _ => none }
def wantNeedsRow : OpenClaim := { program := "ytjbfjochilgnbaadoor", sum := "a5deb7ff8eedf4357b65a1300e413bed8cc752696a7056719cccfbf7103871ec", func := "crucible/cruciblelaw20.WantNeeds", spec := "wantNeeds", inPlace := ["internal/bytealg.IndexByteString", "internal/bytealg.IndexString", "internal/bytealg.CountString", "internal/abi.NoEscape", "internal/bytealg.MakeNoZero"], unfollowed := true, recurses := true, named := ["unicode/utf8.first", "unicode/utf8.acceptRanges", "internal/bytealg.MaxLen"], apart := false, laid := [("unicode/utf8.acceptRanges", laid_unicode_utf8_acceptRanges), ("unicode/utf8.first", laid_unicode_utf8_first)] }
def WantNeedsSaid : Prop := wantNeedsRow.holds Tryd.pinned (OpenSpec.ofChange wantNeedsSpec)

/-- ITS FALSE NEIGHBOUR: 'it returns false'. Refute it at one input. -/
def wantNeedsWrong : ChangeSpec := { name := "wantNeeds", fn := fun _ => fun
  | [d1, d2] => { results := [.lit (.bool false)], args := [d1, d2] }
  | _ => none }
def WantNeedsWrongFalsely : Prop := wantNeedsRow.holds Tryd.pinned (OpenSpec.ofChange wantNeedsWrong)

/-- 'cruciblelaw20.WantMore': WHATEVER THE INPUT: true; the input reads as it did. -/
def wantMoreSpec : ChangeSpec := { name := "wantMore", fn := fun _ => fun
  | [d1, d2, d3] => { results := [.lit (.bool true)], args := [d1, d2, d3] }
  | _ => none }
def wantMoreRow : OpenClaim := { program := "ytjbfjochilgnbaadoor", sum := "a5deb7ff8eedf4357b65a1300e413bed8cc752696a7056719cccfbf7103871ec", func := "crucible/cruciblelaw20.WantMore", spec := "wantMore", inPlace := ["internal/bytealg.IndexByteString", "internal/bytealg.IndexString", "internal/bytealg.CountString", "internal/abi.NoEscape", "internal/bytealg.MakeNoZero"], unfollowed := true, recurses := true, named := ["unicode/utf8.first", "unicode/utf8.acceptRanges", "internal/bytealg.MaxLen"], apart := false, laid := [("unicode/utf8.acceptRanges", laid_unicode_utf8_acceptRanges), ("unicode/utf8.first", laid_unicode_utf8_first)] }
def WantMoreSaid : Prop := wantMoreRow.holds Tryd.pinned (OpenSpec.ofChange wantMoreSpec)

/-- ITS FALSE NEIGHBOUR: 'it returns false'. Refute it at one input. -/
def wantMoreWrong : ChangeSpec := { name := "wantMore", fn := fun _ => fun
  | [d1, d2, d3] => { results := [.lit (.bool false)], args := [d1, d2, d3] }
  | _ => none }
def WantMoreWrongFalsely : Prop := wantMoreRow.holds Tryd.pinned (OpenSpec.ofChange wantMoreWrong)

/-- 'cruciblelaw20.WantAll': WHATEVER THE INPUT: true; the input reads as it did. -/
def wantAllSpec : ChangeSpec := { name := "wantAll", fn := fun _ => fun
  | [d] => { results := [.lit (.bool true)], args := [d] }
  | _ => none }
def wantAllRow : OpenClaim := { program := "ytjbfjochilgnbaadoor", sum := "a5deb7ff8eedf4357b65a1300e413bed8cc752696a7056719cccfbf7103871ec", func := "crucible/cruciblelaw20.WantAll", spec := "wantAll", inPlace := ["internal/bytealg.IndexByteString", "internal/bytealg.IndexString", "internal/bytealg.CountString", "internal/abi.NoEscape", "internal/bytealg.MakeNoZero"], unfollowed := true, recurses := true, named := ["unicode/utf8.first", "unicode/utf8.acceptRanges", "internal/bytealg.MaxLen"], apart := false, laid := [("unicode/utf8.acceptRanges", laid_unicode_utf8_acceptRanges), ("unicode/utf8.first", laid_unicode_utf8_first)] }
def WantAllSaid : Prop := wantAllRow.holds Tryd.pinned (OpenSpec.ofChange wantAllSpec)

/-- ITS FALSE NEIGHBOUR: 'it returns false'. Refute it at one input. -/
def wantAllWrong : ChangeSpec := { name := "wantAll", fn := fun _ => fun
  | [d] => { results := [.lit (.bool false)], args := [d] }
  | _ => none }
def WantAllWrongFalsely : Prop := wantAllRow.holds Tryd.pinned (OpenSpec.ofChange wantAllWrong)

/- THE SECOND FORM. 'bulk': how many values and letters a reading holds, each counted each time it is reached (what is shared counts as often as it is met; a slice's spare places count too). A statement '..UptoSaid' is the law's where the arguments, and the package variables that the reading takes, are together of bulk at most 1048576: NARROWER than '..Said'. Prove '..Said' where nothing that the law and all that it calls make is longer than what came in: it says more and counts as full. Else prove '..UptoSaid'. A law counts once. -/
mutual
def uptoBulk {H : Type} : DataW H → Nat
  | .lit (.string bytes) => bytes.length + 1
  | .lit _ => 1
  | .nil => 1
  | .ptr d => uptoBulk d + 1
  | .slice elems spare => uptoBulkAll elems + uptoBulkAll spare + 1
  | .agg parts => uptoBulkAll parts + 1
  | .iface _ d => uptoBulk d + 1
  | .map entries => uptoBulkEntries entries + 1
  | .held _ => 1
def uptoBulkAll {H : Type} : List (DataW H) → Nat
  | [] => 0
  | d :: r => uptoBulk d + uptoBulkAll r
def uptoBulkEntries {H : Type} : List (Lit × DataW H) → Nat
  | [] => 0
  | x :: r => uptoBulkEntry x + uptoBulkEntries r
def uptoBulkEntry {H : Type} : Lit × DataW H → Nat
  | (.string bytes, d) => bytes.length + uptoBulk d + 1
  | (_, d) => uptoBulk d + 1
 end
def uptoSmall : (H : Type) → List (DataW H) → Bool := fun _ ds => decide (uptoBulkAll ds ≤ 1048576)
def OpenSpec.upto (s : _root_.Go.ChangeSpec) : _root_.Go.OpenSpec := { _root_.Go.OpenSpec.ofChange s with cond := some uptoSmall }

/-- 'cruciblelaw9.GraphForms', WHERE WHAT IT READS IS OF BULK AT MOST 1048576: true; the input reads as it did. -/
def graphFormsUptoRow : OpenClaim := { program := "ytjbfjochilgnbaadoor", sum := "a5deb7ff8eedf4357b65a1300e413bed8cc752696a7056719cccfbf7103871ec", func := "crucible/cruciblelaw9.GraphForms", spec := "graphForms", inPlace := ["internal/bytealg.IndexByteString", "internal/bytealg.IndexString", "internal/bytealg.CountString", "internal/abi.NoEscape", "internal/bytealg.MakeNoZero"], unfollowed := true, recurses := true, named := ["unicode/utf8.first", "unicode/utf8.acceptRanges", "internal/bytealg.MaxLen"], apart := false, laid := [("unicode/utf8.acceptRanges", laid_unicode_utf8_acceptRanges), ("unicode/utf8.first", laid_unicode_utf8_first)], narrowed := true }
def GraphFormsUptoSaid : Prop := graphFormsUptoRow.holds Tryd.pinned (OpenSpec.upto graphFormsSpec)

/-- 'cruciblelaw9.GraphMany', WHERE WHAT IT READS IS OF BULK AT MOST 1048576: true; the input reads as it did. -/
def graphManyUptoRow : OpenClaim := { program := "ytjbfjochilgnbaadoor", sum := "a5deb7ff8eedf4357b65a1300e413bed8cc752696a7056719cccfbf7103871ec", func := "crucible/cruciblelaw9.GraphMany", spec := "graphMany", inPlace := ["internal/bytealg.IndexByteString", "internal/bytealg.IndexString", "internal/bytealg.CountString", "internal/abi.NoEscape", "internal/bytealg.MakeNoZero"], unfollowed := true, recurses := true, named := ["unicode/utf8.first", "unicode/utf8.acceptRanges", "internal/bytealg.MaxLen"], apart := false, laid := [("unicode/utf8.acceptRanges", laid_unicode_utf8_acceptRanges), ("unicode/utf8.first", laid_unicode_utf8_first)], narrowed := true }
def GraphManyUptoSaid : Prop := graphManyUptoRow.holds Tryd.pinned (OpenSpec.upto graphManySpec)

/-- 'cruciblelaw9.GraphMakes', WHERE WHAT IT READS IS OF BULK AT MOST 1048576: true; the input reads as it did. -/
def graphMakesUptoRow : OpenClaim := { program := "ytjbfjochilgnbaadoor", sum := "a5deb7ff8eedf4357b65a1300e413bed8cc752696a7056719cccfbf7103871ec", func := "crucible/cruciblelaw9.GraphMakes", spec := "graphMakes", inPlace := ["internal/bytealg.IndexByteString", "internal/bytealg.IndexString", "internal/bytealg.CountString", "internal/abi.NoEscape", "internal/bytealg.MakeNoZero"], unfollowed := true, recurses := true, named := ["unicode/utf8.first", "unicode/utf8.acceptRanges", "internal/bytealg.MaxLen"], apart := false, laid := [("unicode/utf8.acceptRanges", laid_unicode_utf8_acceptRanges), ("unicode/utf8.first", laid_unicode_utf8_first)], narrowed := true }
def GraphMakesUptoSaid : Prop := graphMakesUptoRow.holds Tryd.pinned (OpenSpec.upto graphMakesSpec)

/-- 'cruciblelaw9.GraphRow', WHERE WHAT IT READS IS OF BULK AT MOST 1048576: true; the input reads as it did. -/
def graphRowUptoRow : OpenClaim := { program := "ytjbfjochilgnbaadoor", sum := "a5deb7ff8eedf4357b65a1300e413bed8cc752696a7056719cccfbf7103871ec", func := "crucible/cruciblelaw9.GraphRow", spec := "graphRow", inPlace := ["internal/bytealg.IndexByteString", "internal/bytealg.IndexString", "internal/bytealg.CountString", "internal/abi.NoEscape", "internal/bytealg.MakeNoZero"], unfollowed := true, recurses := true, named := ["unicode/utf8.first", "unicode/utf8.acceptRanges", "internal/bytealg.MaxLen"], apart := false, laid := [("unicode/utf8.acceptRanges", laid_unicode_utf8_acceptRanges), ("unicode/utf8.first", laid_unicode_utf8_first)], narrowed := true }
def GraphRowUptoSaid : Prop := graphRowUptoRow.holds Tryd.pinned (OpenSpec.upto graphRowSpec)

/-- 'cruciblelaw10.OrderNeeds', WHERE WHAT IT READS IS OF BULK AT MOST 1048576: true; the input reads as it did. -/
def orderNeedsUptoRow : OpenClaim := { program := "ytjbfjochilgnbaadoor", sum := "a5deb7ff8eedf4357b65a1300e413bed8cc752696a7056719cccfbf7103871ec", func := "crucible/cruciblelaw10.OrderNeeds", spec := "orderNeeds", inPlace := ["internal/bytealg.IndexByteString", "internal/bytealg.IndexString", "internal/bytealg.CountString", "internal/abi.NoEscape", "internal/bytealg.MakeNoZero"], unfollowed := true, recurses := true, named := ["unicode/utf8.first", "unicode/utf8.acceptRanges", "internal/bytealg.MaxLen"], apart := false, laid := [("unicode/utf8.acceptRanges", laid_unicode_utf8_acceptRanges), ("unicode/utf8.first", laid_unicode_utf8_first)], narrowed := true }
def OrderNeedsUptoSaid : Prop := orderNeedsUptoRow.holds Tryd.pinned (OpenSpec.upto orderNeedsSpec)

/-- 'cruciblelaw10.OrderCycles', WHERE WHAT IT READS IS OF BULK AT MOST 1048576: true; the input reads as it did. -/
def orderCyclesUptoRow : OpenClaim := { program := "ytjbfjochilgnbaadoor", sum := "a5deb7ff8eedf4357b65a1300e413bed8cc752696a7056719cccfbf7103871ec", func := "crucible/cruciblelaw10.OrderCycles", spec := "orderCycles", inPlace := ["internal/bytealg.IndexByteString", "internal/bytealg.IndexString", "internal/bytealg.CountString", "internal/abi.NoEscape", "internal/bytealg.MakeNoZero"], unfollowed := true, recurses := true, named := ["unicode/utf8.first", "unicode/utf8.acceptRanges", "internal/bytealg.MaxLen"], apart := false, laid := [("unicode/utf8.acceptRanges", laid_unicode_utf8_acceptRanges), ("unicode/utf8.first", laid_unicode_utf8_first)], narrowed := true }
def OrderCyclesUptoSaid : Prop := orderCyclesUptoRow.holds Tryd.pinned (OpenSpec.upto orderCyclesSpec)

/-- 'cruciblelaw10.OrderLess', WHERE WHAT IT READS IS OF BULK AT MOST 1048576: true; the input reads as it did. -/
def orderLessUptoRow : OpenClaim := { program := "ytjbfjochilgnbaadoor", sum := "a5deb7ff8eedf4357b65a1300e413bed8cc752696a7056719cccfbf7103871ec", func := "crucible/cruciblelaw10.OrderLess", spec := "orderLess", inPlace := ["internal/bytealg.IndexByteString", "internal/bytealg.IndexString", "internal/bytealg.CountString", "internal/abi.NoEscape", "internal/bytealg.MakeNoZero"], unfollowed := true, recurses := true, named := ["unicode/utf8.first", "unicode/utf8.acceptRanges", "internal/bytealg.MaxLen"], apart := false, laid := [("unicode/utf8.acceptRanges", laid_unicode_utf8_acceptRanges), ("unicode/utf8.first", laid_unicode_utf8_first)], narrowed := true }
def OrderLessUptoSaid : Prop := orderLessUptoRow.holds Tryd.pinned (OpenSpec.upto orderLessSpec)

/-- 'cruciblelaw10.OrderPlain', WHERE WHAT IT READS IS OF BULK AT MOST 1048576: true; the input reads as it did. -/
def orderPlainUptoRow : OpenClaim := { program := "ytjbfjochilgnbaadoor", sum := "a5deb7ff8eedf4357b65a1300e413bed8cc752696a7056719cccfbf7103871ec", func := "crucible/cruciblelaw10.OrderPlain", spec := "orderPlain", inPlace := ["internal/bytealg.IndexByteString", "internal/bytealg.IndexString", "internal/bytealg.CountString", "internal/abi.NoEscape", "internal/bytealg.MakeNoZero"], unfollowed := true, recurses := true, named := ["unicode/utf8.first", "unicode/utf8.acceptRanges", "internal/bytealg.MaxLen"], apart := false, laid := [("unicode/utf8.acceptRanges", laid_unicode_utf8_acceptRanges), ("unicode/utf8.first", laid_unicode_utf8_first)], narrowed := true }
def OrderPlainUptoSaid : Prop := orderPlainUptoRow.holds Tryd.pinned (OpenSpec.upto orderPlainSpec)

/-- 'cruciblelaw20.WantForms', WHERE WHAT IT READS IS OF BULK AT MOST 1048576: true; the input reads as it did. -/
def wantFormsUptoRow : OpenClaim := { program := "ytjbfjochilgnbaadoor", sum := "a5deb7ff8eedf4357b65a1300e413bed8cc752696a7056719cccfbf7103871ec", func := "crucible/cruciblelaw20.WantForms", spec := "wantForms", inPlace := ["internal/bytealg.IndexByteString", "internal/bytealg.IndexString", "internal/bytealg.CountString", "internal/abi.NoEscape", "internal/bytealg.MakeNoZero"], unfollowed := true, recurses := true, named := ["unicode/utf8.first", "unicode/utf8.acceptRanges", "internal/bytealg.MaxLen"], apart := false, laid := [("unicode/utf8.acceptRanges", laid_unicode_utf8_acceptRanges), ("unicode/utf8.first", laid_unicode_utf8_first)], narrowed := true }
def WantFormsUptoSaid : Prop := wantFormsUptoRow.holds Tryd.pinned (OpenSpec.upto wantFormsSpec)

/-- 'cruciblelaw20.WantNeeds', WHERE WHAT IT READS IS OF BULK AT MOST 1048576: true; the input reads as it did. -/
def wantNeedsUptoRow : OpenClaim := { program := "ytjbfjochilgnbaadoor", sum := "a5deb7ff8eedf4357b65a1300e413bed8cc752696a7056719cccfbf7103871ec", func := "crucible/cruciblelaw20.WantNeeds", spec := "wantNeeds", inPlace := ["internal/bytealg.IndexByteString", "internal/bytealg.IndexString", "internal/bytealg.CountString", "internal/abi.NoEscape", "internal/bytealg.MakeNoZero"], unfollowed := true, recurses := true, named := ["unicode/utf8.first", "unicode/utf8.acceptRanges", "internal/bytealg.MaxLen"], apart := false, laid := [("unicode/utf8.acceptRanges", laid_unicode_utf8_acceptRanges), ("unicode/utf8.first", laid_unicode_utf8_first)], narrowed := true }
def WantNeedsUptoSaid : Prop := wantNeedsUptoRow.holds Tryd.pinned (OpenSpec.upto wantNeedsSpec)

/-- 'cruciblelaw20.WantMore', WHERE WHAT IT READS IS OF BULK AT MOST 1048576: true; the input reads as it did. -/
def wantMoreUptoRow : OpenClaim := { program := "ytjbfjochilgnbaadoor", sum := "a5deb7ff8eedf4357b65a1300e413bed8cc752696a7056719cccfbf7103871ec", func := "crucible/cruciblelaw20.WantMore", spec := "wantMore", inPlace := ["internal/bytealg.IndexByteString", "internal/bytealg.IndexString", "internal/bytealg.CountString", "internal/abi.NoEscape", "internal/bytealg.MakeNoZero"], unfollowed := true, recurses := true, named := ["unicode/utf8.first", "unicode/utf8.acceptRanges", "internal/bytealg.MaxLen"], apart := false, laid := [("unicode/utf8.acceptRanges", laid_unicode_utf8_acceptRanges), ("unicode/utf8.first", laid_unicode_utf8_first)], narrowed := true }
def WantMoreUptoSaid : Prop := wantMoreUptoRow.holds Tryd.pinned (OpenSpec.upto wantMoreSpec)

/-- 'cruciblelaw20.WantAll', WHERE WHAT IT READS IS OF BULK AT MOST 1048576: true; the input reads as it did. -/
def wantAllUptoRow : OpenClaim := { program := "ytjbfjochilgnbaadoor", sum := "a5deb7ff8eedf4357b65a1300e413bed8cc752696a7056719cccfbf7103871ec", func := "crucible/cruciblelaw20.WantAll", spec := "wantAll", inPlace := ["internal/bytealg.IndexByteString", "internal/bytealg.IndexString", "internal/bytealg.CountString", "internal/abi.NoEscape", "internal/bytealg.MakeNoZero"], unfollowed := true, recurses := true, named := ["unicode/utf8.first", "unicode/utf8.acceptRanges", "internal/bytealg.MaxLen"], apart := false, laid := [("unicode/utf8.acceptRanges", laid_unicode_utf8_acceptRanges), ("unicode/utf8.first", laid_unicode_utf8_first)], narrowed := true }
def WantAllUptoSaid : Prop := wantAllUptoRow.holds Tryd.pinned (OpenSpec.upto wantAllSpec)

end Rows
end Go.Proofs.YtjbfjochilgnbaaDoor

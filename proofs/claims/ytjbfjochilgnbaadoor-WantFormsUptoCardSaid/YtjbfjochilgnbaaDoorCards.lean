/-
  DERIVED. GIVEN WITH THE SEED: THE CARDS: each row of YtjbfjochilgnbaaDoorRows.lean that lists a variable, with what it lists TIED to the program's text (the seventh form; the later family's looks); each row that meets fmt, with fmt's text TOLD by the authors' own Lean function (tested against real Go, not proved from fmt's source: count such statements apart). THE CARD IS WHAT COUNTS. Prove the row's statement (the work); the ties are given (YtjbfjochilgnbaaDoorTie.lean); close each card by the builder's one call (the guide's Derived/Test/ToyasCard.lean, 'card_holds'). Laid BY PROGRAM, IN A SANDBOX (cutbox-door.mjs). By AI agents, Wed Nov 11 2026. No macro, syntax, notation, axiom, sorry.
-/
import Derived.Test.YtjbfjochilgnbaaDoorRows
import GoSem.ClaimSeven
namespace Go.Proofs.YtjbfjochilgnbaaDoor
namespace Rows

/-- THE TIED CARD OF 'cruciblelaw9.GraphForms'. -/
def graphFormsCard : Claim7 := { stood := { row := graphFormsRow, standIns := [], harness := (true, "438387f0fe4e2d3034cce169d8237bfb2de6c8eacf41cdda7b81db12b420aa67"), looks := false }, kinds := [], alts := [], laidByText := true, laidKinds := [.data, .pinned], laidTests := true, laidLooks := .later }
def GraphFormsCardSaid : Prop := Claim7.holds Tryd.pinned (.plain (OpenSpec.ofChange graphFormsSpec)) graphFormsCard

/-- THE TIED CARD OF 'cruciblelaw9.GraphMany'. -/
def graphManyCard : Claim7 := { stood := { row := graphManyRow, standIns := [], harness := (true, "438387f0fe4e2d3034cce169d8237bfb2de6c8eacf41cdda7b81db12b420aa67"), looks := false }, kinds := [], alts := [], laidByText := true, laidKinds := [.data, .pinned], laidTests := true, laidLooks := .later }
def GraphManyCardSaid : Prop := Claim7.holds Tryd.pinned (.plain (OpenSpec.ofChange graphManySpec)) graphManyCard

/-- THE TIED CARD OF 'cruciblelaw9.GraphMakes'. -/
def graphMakesCard : Claim7 := { stood := { row := graphMakesRow, standIns := [], harness := (true, "438387f0fe4e2d3034cce169d8237bfb2de6c8eacf41cdda7b81db12b420aa67"), looks := false }, kinds := [], alts := [], laidByText := true, laidKinds := [.data, .pinned], laidTests := true, laidLooks := .later }
def GraphMakesCardSaid : Prop := Claim7.holds Tryd.pinned (.plain (OpenSpec.ofChange graphMakesSpec)) graphMakesCard

/-- THE TIED CARD OF 'cruciblelaw9.GraphRow'. -/
def graphRowCard : Claim7 := { stood := { row := graphRowRow, standIns := [], harness := (true, "438387f0fe4e2d3034cce169d8237bfb2de6c8eacf41cdda7b81db12b420aa67"), looks := false }, kinds := [], alts := [], laidByText := true, laidKinds := [.data, .pinned], laidTests := true, laidLooks := .later }
def GraphRowCardSaid : Prop := Claim7.holds Tryd.pinned (.plain (OpenSpec.ofChange graphRowSpec)) graphRowCard

/-- THE TIED CARD OF 'cruciblelaw10.OrderNeeds'. -/
def orderNeedsCard : Claim7 := { stood := { row := orderNeedsRow, standIns := [], harness := (true, "438387f0fe4e2d3034cce169d8237bfb2de6c8eacf41cdda7b81db12b420aa67"), looks := false }, kinds := [], alts := [], laidByText := true, laidKinds := [.data, .pinned], laidTests := true, laidLooks := .later }
def OrderNeedsCardSaid : Prop := Claim7.holds Tryd.pinned (.plain (OpenSpec.ofChange orderNeedsSpec)) orderNeedsCard

/-- THE TIED CARD OF 'cruciblelaw10.OrderCycles'. -/
def orderCyclesCard : Claim7 := { stood := { row := orderCyclesRow, standIns := [], harness := (true, "438387f0fe4e2d3034cce169d8237bfb2de6c8eacf41cdda7b81db12b420aa67"), looks := false }, kinds := [], alts := [], laidByText := true, laidKinds := [.data, .pinned], laidTests := true, laidLooks := .later }
def OrderCyclesCardSaid : Prop := Claim7.holds Tryd.pinned (.plain (OpenSpec.ofChange orderCyclesSpec)) orderCyclesCard

/-- THE TIED CARD OF 'cruciblelaw10.OrderLess'. -/
def orderLessCard : Claim7 := { stood := { row := orderLessRow, standIns := [], harness := (true, "438387f0fe4e2d3034cce169d8237bfb2de6c8eacf41cdda7b81db12b420aa67"), looks := false }, kinds := [], alts := [], laidByText := true, laidKinds := [.data, .pinned], laidTests := true, laidLooks := .later }
def OrderLessCardSaid : Prop := Claim7.holds Tryd.pinned (.plain (OpenSpec.ofChange orderLessSpec)) orderLessCard

/-- THE TIED CARD OF 'cruciblelaw10.OrderPlain'. -/
def orderPlainCard : Claim7 := { stood := { row := orderPlainRow, standIns := [], harness := (true, "438387f0fe4e2d3034cce169d8237bfb2de6c8eacf41cdda7b81db12b420aa67"), looks := false }, kinds := [], alts := [], laidByText := true, laidKinds := [.data, .pinned], laidTests := true, laidLooks := .later }
def OrderPlainCardSaid : Prop := Claim7.holds Tryd.pinned (.plain (OpenSpec.ofChange orderPlainSpec)) orderPlainCard

/-- THE TIED CARD OF 'cruciblelaw20.WantForms'. -/
def wantFormsCard : Claim7 := { stood := { row := wantFormsRow, standIns := [], harness := (true, "438387f0fe4e2d3034cce169d8237bfb2de6c8eacf41cdda7b81db12b420aa67"), looks := false }, kinds := [], alts := [], laidByText := true, laidKinds := [.data, .pinned], laidTests := true, laidLooks := .later }
def WantFormsCardSaid : Prop := Claim7.holds Tryd.pinned (.plain (OpenSpec.ofChange wantFormsSpec)) wantFormsCard

/-- THE TIED CARD OF 'cruciblelaw20.WantNeeds'. -/
def wantNeedsCard : Claim7 := { stood := { row := wantNeedsRow, standIns := [], harness := (true, "438387f0fe4e2d3034cce169d8237bfb2de6c8eacf41cdda7b81db12b420aa67"), looks := false }, kinds := [], alts := [], laidByText := true, laidKinds := [.data, .pinned], laidTests := true, laidLooks := .later }
def WantNeedsCardSaid : Prop := Claim7.holds Tryd.pinned (.plain (OpenSpec.ofChange wantNeedsSpec)) wantNeedsCard

/-- THE TIED CARD OF 'cruciblelaw20.WantMore'. -/
def wantMoreCard : Claim7 := { stood := { row := wantMoreRow, standIns := [], harness := (true, "438387f0fe4e2d3034cce169d8237bfb2de6c8eacf41cdda7b81db12b420aa67"), looks := false }, kinds := [], alts := [], laidByText := true, laidKinds := [.data, .pinned], laidTests := true, laidLooks := .later }
def WantMoreCardSaid : Prop := Claim7.holds Tryd.pinned (.plain (OpenSpec.ofChange wantMoreSpec)) wantMoreCard

/-- THE TIED CARD OF 'cruciblelaw20.WantAll'. -/
def wantAllCard : Claim7 := { stood := { row := wantAllRow, standIns := [], harness := (true, "438387f0fe4e2d3034cce169d8237bfb2de6c8eacf41cdda7b81db12b420aa67"), looks := false }, kinds := [], alts := [], laidByText := true, laidKinds := [.data, .pinned], laidTests := true, laidLooks := .later }
def WantAllCardSaid : Prop := Claim7.holds Tryd.pinned (.plain (OpenSpec.ofChange wantAllSpec)) wantAllCard

/-- THE SECOND FORM's CARD OF 'cruciblelaw9.GraphForms'. -/
def graphFormsUptoCard : Claim7 := { stood := { row := graphFormsUptoRow, standIns := [], harness := (true, "438387f0fe4e2d3034cce169d8237bfb2de6c8eacf41cdda7b81db12b420aa67"), looks := false }, kinds := [], alts := [], laidByText := true, laidKinds := [.data, .pinned], laidTests := true, laidLooks := .later }
def GraphFormsUptoCardSaid : Prop := Claim7.holds Tryd.pinned (.plain (OpenSpec.upto graphFormsSpec)) graphFormsUptoCard

/-- THE SECOND FORM's CARD OF 'cruciblelaw9.GraphMany'. -/
def graphManyUptoCard : Claim7 := { stood := { row := graphManyUptoRow, standIns := [], harness := (true, "438387f0fe4e2d3034cce169d8237bfb2de6c8eacf41cdda7b81db12b420aa67"), looks := false }, kinds := [], alts := [], laidByText := true, laidKinds := [.data, .pinned], laidTests := true, laidLooks := .later }
def GraphManyUptoCardSaid : Prop := Claim7.holds Tryd.pinned (.plain (OpenSpec.upto graphManySpec)) graphManyUptoCard

/-- THE SECOND FORM's CARD OF 'cruciblelaw9.GraphMakes'. -/
def graphMakesUptoCard : Claim7 := { stood := { row := graphMakesUptoRow, standIns := [], harness := (true, "438387f0fe4e2d3034cce169d8237bfb2de6c8eacf41cdda7b81db12b420aa67"), looks := false }, kinds := [], alts := [], laidByText := true, laidKinds := [.data, .pinned], laidTests := true, laidLooks := .later }
def GraphMakesUptoCardSaid : Prop := Claim7.holds Tryd.pinned (.plain (OpenSpec.upto graphMakesSpec)) graphMakesUptoCard

/-- THE SECOND FORM's CARD OF 'cruciblelaw9.GraphRow'. -/
def graphRowUptoCard : Claim7 := { stood := { row := graphRowUptoRow, standIns := [], harness := (true, "438387f0fe4e2d3034cce169d8237bfb2de6c8eacf41cdda7b81db12b420aa67"), looks := false }, kinds := [], alts := [], laidByText := true, laidKinds := [.data, .pinned], laidTests := true, laidLooks := .later }
def GraphRowUptoCardSaid : Prop := Claim7.holds Tryd.pinned (.plain (OpenSpec.upto graphRowSpec)) graphRowUptoCard

/-- THE SECOND FORM's CARD OF 'cruciblelaw10.OrderNeeds'. -/
def orderNeedsUptoCard : Claim7 := { stood := { row := orderNeedsUptoRow, standIns := [], harness := (true, "438387f0fe4e2d3034cce169d8237bfb2de6c8eacf41cdda7b81db12b420aa67"), looks := false }, kinds := [], alts := [], laidByText := true, laidKinds := [.data, .pinned], laidTests := true, laidLooks := .later }
def OrderNeedsUptoCardSaid : Prop := Claim7.holds Tryd.pinned (.plain (OpenSpec.upto orderNeedsSpec)) orderNeedsUptoCard

/-- THE SECOND FORM's CARD OF 'cruciblelaw10.OrderCycles'. -/
def orderCyclesUptoCard : Claim7 := { stood := { row := orderCyclesUptoRow, standIns := [], harness := (true, "438387f0fe4e2d3034cce169d8237bfb2de6c8eacf41cdda7b81db12b420aa67"), looks := false }, kinds := [], alts := [], laidByText := true, laidKinds := [.data, .pinned], laidTests := true, laidLooks := .later }
def OrderCyclesUptoCardSaid : Prop := Claim7.holds Tryd.pinned (.plain (OpenSpec.upto orderCyclesSpec)) orderCyclesUptoCard

/-- THE SECOND FORM's CARD OF 'cruciblelaw10.OrderLess'. -/
def orderLessUptoCard : Claim7 := { stood := { row := orderLessUptoRow, standIns := [], harness := (true, "438387f0fe4e2d3034cce169d8237bfb2de6c8eacf41cdda7b81db12b420aa67"), looks := false }, kinds := [], alts := [], laidByText := true, laidKinds := [.data, .pinned], laidTests := true, laidLooks := .later }
def OrderLessUptoCardSaid : Prop := Claim7.holds Tryd.pinned (.plain (OpenSpec.upto orderLessSpec)) orderLessUptoCard

/-- THE SECOND FORM's CARD OF 'cruciblelaw10.OrderPlain'. -/
def orderPlainUptoCard : Claim7 := { stood := { row := orderPlainUptoRow, standIns := [], harness := (true, "438387f0fe4e2d3034cce169d8237bfb2de6c8eacf41cdda7b81db12b420aa67"), looks := false }, kinds := [], alts := [], laidByText := true, laidKinds := [.data, .pinned], laidTests := true, laidLooks := .later }
def OrderPlainUptoCardSaid : Prop := Claim7.holds Tryd.pinned (.plain (OpenSpec.upto orderPlainSpec)) orderPlainUptoCard

/-- THE SECOND FORM's CARD OF 'cruciblelaw20.WantForms'. -/
def wantFormsUptoCard : Claim7 := { stood := { row := wantFormsUptoRow, standIns := [], harness := (true, "438387f0fe4e2d3034cce169d8237bfb2de6c8eacf41cdda7b81db12b420aa67"), looks := false }, kinds := [], alts := [], laidByText := true, laidKinds := [.data, .pinned], laidTests := true, laidLooks := .later }
def WantFormsUptoCardSaid : Prop := Claim7.holds Tryd.pinned (.plain (OpenSpec.upto wantFormsSpec)) wantFormsUptoCard

/-- THE SECOND FORM's CARD OF 'cruciblelaw20.WantNeeds'. -/
def wantNeedsUptoCard : Claim7 := { stood := { row := wantNeedsUptoRow, standIns := [], harness := (true, "438387f0fe4e2d3034cce169d8237bfb2de6c8eacf41cdda7b81db12b420aa67"), looks := false }, kinds := [], alts := [], laidByText := true, laidKinds := [.data, .pinned], laidTests := true, laidLooks := .later }
def WantNeedsUptoCardSaid : Prop := Claim7.holds Tryd.pinned (.plain (OpenSpec.upto wantNeedsSpec)) wantNeedsUptoCard

/-- THE SECOND FORM's CARD OF 'cruciblelaw20.WantMore'. -/
def wantMoreUptoCard : Claim7 := { stood := { row := wantMoreUptoRow, standIns := [], harness := (true, "438387f0fe4e2d3034cce169d8237bfb2de6c8eacf41cdda7b81db12b420aa67"), looks := false }, kinds := [], alts := [], laidByText := true, laidKinds := [.data, .pinned], laidTests := true, laidLooks := .later }
def WantMoreUptoCardSaid : Prop := Claim7.holds Tryd.pinned (.plain (OpenSpec.upto wantMoreSpec)) wantMoreUptoCard

/-- THE SECOND FORM's CARD OF 'cruciblelaw20.WantAll'. -/
def wantAllUptoCard : Claim7 := { stood := { row := wantAllUptoRow, standIns := [], harness := (true, "438387f0fe4e2d3034cce169d8237bfb2de6c8eacf41cdda7b81db12b420aa67"), looks := false }, kinds := [], alts := [], laidByText := true, laidKinds := [.data, .pinned], laidTests := true, laidLooks := .later }
def WantAllUptoCardSaid : Prop := Claim7.holds Tryd.pinned (.plain (OpenSpec.upto wantAllSpec)) wantAllUptoCard
end Rows
end Go.Proofs.YtjbfjochilgnbaaDoor

/-
  DERIVED. GIVEN WITH THE SEED: THE CARDS: each row of YthagoaoenalmbaaGreatDoorRows.lean that lists a variable, with what it lists TIED to the program's text (the seventh form; the later family's looks); each row that meets fmt, with fmt's text TOLD by the authors' own Lean function (tested against real Go, not proved from fmt's source: count such statements apart). THE CARD IS WHAT COUNTS. Prove the row's statement (the work); the ties are given (YthagoaoenalmbaaGreatDoorTie.lean); close each card by the builder's one call (the guide's Derived/Test/ToyasCard.lean, 'card_holds'). Laid BY PROGRAM, IN A SANDBOX (cutbox-door.mjs). By AI agents, Wed Nov 11 2026. No macro, syntax, notation, axiom, sorry.
-/
import Derived.Test.YthagoaoenalmbaaGreatDoorRows
import GoSem.ClaimSeven
namespace Go.Proofs.YthagoaoenalmbaaGreatDoor
namespace Rows

/-- THE TIED CARD OF 'cruciblelaw9.Graphs'. -/
def graphsCard : Claim7 := { stood := { row := graphsRow, standIns := [], harness := (true, "d3a6dfc38adbf419c89533840f25ba36368ab358f9f5ebce38d7d4f612e7f0a8"), looks := false }, kinds := [], alts := [], laidByText := true, laidKinds := [.data, .pinned], laidTests := true, laidLooks := .later }
def GraphsCardSaid : Prop := Claim7.holds Tryz.pinned (.plain (OpenSpec.ofChange graphsSpec)) graphsCard

/-- THE TIED CARD OF 'cruciblelaw10.Orders'. -/
def ordersCard : Claim7 := { stood := { row := ordersRow, standIns := [], harness := (true, "d3a6dfc38adbf419c89533840f25ba36368ab358f9f5ebce38d7d4f612e7f0a8"), looks := false }, kinds := [], alts := [], laidByText := true, laidKinds := [.data, .pinned], laidTests := true, laidLooks := .later }
def OrdersCardSaid : Prop := Claim7.holds Tryz.pinned (.plain (OpenSpec.ofChange ordersSpec)) ordersCard

/-- THE TIED CARD OF 'cruciblelaw20.Wants'. -/
def wantsCard : Claim7 := { stood := { row := wantsRow, standIns := [], harness := (true, "d3a6dfc38adbf419c89533840f25ba36368ab358f9f5ebce38d7d4f612e7f0a8"), looks := false }, kinds := [], alts := [], laidByText := true, laidKinds := [.data, .pinned], laidTests := true, laidLooks := .later }
def WantsCardSaid : Prop := Claim7.holds Tryz.pinned (.plain (OpenSpec.ofChange wantsSpec)) wantsCard

/-- THE TIED CARD OF 'cruciblelaw21.Readies'. -/
def readiesCard : Claim7 := { stood := { row := readiesRow, standIns := [], harness := (true, "d3a6dfc38adbf419c89533840f25ba36368ab358f9f5ebce38d7d4f612e7f0a8"), looks := false }, kinds := [], alts := [], laidByText := true, laidKinds := [.data, .pinned], laidTests := true, laidLooks := .later }
def ReadiesCardSaid : Prop := Claim7.holds Tryz.pinned (.plain (OpenSpec.ofChange readiesSpec)) readiesCard

/-- THE TIED CARD OF 'cruciblelaw21.ReadyTable'. -/
def readyTableCard : Claim7 := { stood := { row := readyTableRow, standIns := [], harness := (true, "d3a6dfc38adbf419c89533840f25ba36368ab358f9f5ebce38d7d4f612e7f0a8"), looks := false }, kinds := [], alts := [], laidByText := true, laidKinds := [.data, .pinned], laidTests := true, laidLooks := .later }
def ReadyTableCardSaid : Prop := Claim7.holds Tryz.pinned (.plain (OpenSpec.ofChange readyTableSpec)) readyTableCard

/-- THE TIED CARD OF 'cruciblelaw21.ReadyForms'. -/
def readyFormsCard : Claim7 := { stood := { row := readyFormsRow, standIns := [], harness := (true, "d3a6dfc38adbf419c89533840f25ba36368ab358f9f5ebce38d7d4f612e7f0a8"), looks := false }, kinds := [], alts := [], laidByText := true, laidKinds := [.data, .pinned], laidTests := true, laidLooks := .later }
def ReadyFormsCardSaid : Prop := Claim7.holds Tryz.pinned (.plain (OpenSpec.ofChange readyFormsSpec)) readyFormsCard

/-- THE TIED CARD OF 'cruciblelaw21.ReadyNeeds'. -/
def readyNeedsCard : Claim7 := { stood := { row := readyNeedsRow, standIns := [], harness := (true, "d3a6dfc38adbf419c89533840f25ba36368ab358f9f5ebce38d7d4f612e7f0a8"), looks := false }, kinds := [], alts := [], laidByText := true, laidKinds := [.data, .pinned], laidTests := true, laidLooks := .later }
def ReadyNeedsCardSaid : Prop := Claim7.holds Tryz.pinned (.plain (OpenSpec.ofChange readyNeedsSpec)) readyNeedsCard

/-- THE TIED CARD OF 'cruciblelaw22.Rooms'. -/
def roomsCard : Claim7 := { stood := { row := roomsRow, standIns := [], harness := (true, "d3a6dfc38adbf419c89533840f25ba36368ab358f9f5ebce38d7d4f612e7f0a8"), looks := false }, kinds := [], alts := [], laidByText := true, laidKinds := [.data, .pinned], laidTests := true, laidLooks := .later }
def RoomsCardSaid : Prop := Claim7.holds Tryz.pinned (.plain (OpenSpec.ofChange roomsSpec)) roomsCard

/-- THE TIED CARD OF 'cruciblelaw22.RoomTable'. -/
def roomTableCard : Claim7 := { stood := { row := roomTableRow, standIns := [], harness := (true, "d3a6dfc38adbf419c89533840f25ba36368ab358f9f5ebce38d7d4f612e7f0a8"), looks := false }, kinds := [], alts := [], laidByText := true, laidKinds := [.data, .pinned], laidTests := true, laidLooks := .later }
def RoomTableCardSaid : Prop := Claim7.holds Tryz.pinned (.plain (OpenSpec.ofChange roomTableSpec)) roomTableCard

/-- THE TIED CARD OF 'cruciblelaw22.RoomForms'. -/
def roomFormsCard : Claim7 := { stood := { row := roomFormsRow, standIns := [], harness := (true, "d3a6dfc38adbf419c89533840f25ba36368ab358f9f5ebce38d7d4f612e7f0a8"), looks := false }, kinds := [], alts := [], laidByText := true, laidKinds := [.data, .pinned], laidTests := true, laidLooks := .later }
def RoomFormsCardSaid : Prop := Claim7.holds Tryz.pinned (.plain (OpenSpec.ofChange roomFormsSpec)) roomFormsCard

/-- THE TIED CARD OF 'cruciblelaw22.RoomLess'. -/
def roomLessCard : Claim7 := { stood := { row := roomLessRow, standIns := [], harness := (true, "d3a6dfc38adbf419c89533840f25ba36368ab358f9f5ebce38d7d4f612e7f0a8"), looks := false }, kinds := [], alts := [], laidByText := true, laidKinds := [.data, .pinned], laidTests := true, laidLooks := .later }
def RoomLessCardSaid : Prop := Claim7.holds Tryz.pinned (.plain (OpenSpec.ofChange roomLessSpec)) roomLessCard

/-- THE SECOND FORM's CARD OF 'cruciblelaw9.Graphs'. -/
def graphsUptoCard : Claim7 := { stood := { row := graphsUptoRow, standIns := [], harness := (true, "d3a6dfc38adbf419c89533840f25ba36368ab358f9f5ebce38d7d4f612e7f0a8"), looks := false }, kinds := [], alts := [], laidByText := true, laidKinds := [.data, .pinned], laidTests := true, laidLooks := .later }
def GraphsUptoCardSaid : Prop := Claim7.holds Tryz.pinned (.plain (OpenSpec.upto graphsSpec)) graphsUptoCard

/-- THE SECOND FORM's CARD OF 'cruciblelaw10.Orders'. -/
def ordersUptoCard : Claim7 := { stood := { row := ordersUptoRow, standIns := [], harness := (true, "d3a6dfc38adbf419c89533840f25ba36368ab358f9f5ebce38d7d4f612e7f0a8"), looks := false }, kinds := [], alts := [], laidByText := true, laidKinds := [.data, .pinned], laidTests := true, laidLooks := .later }
def OrdersUptoCardSaid : Prop := Claim7.holds Tryz.pinned (.plain (OpenSpec.upto ordersSpec)) ordersUptoCard

/-- THE SECOND FORM's CARD OF 'cruciblelaw20.Wants'. -/
def wantsUptoCard : Claim7 := { stood := { row := wantsUptoRow, standIns := [], harness := (true, "d3a6dfc38adbf419c89533840f25ba36368ab358f9f5ebce38d7d4f612e7f0a8"), looks := false }, kinds := [], alts := [], laidByText := true, laidKinds := [.data, .pinned], laidTests := true, laidLooks := .later }
def WantsUptoCardSaid : Prop := Claim7.holds Tryz.pinned (.plain (OpenSpec.upto wantsSpec)) wantsUptoCard

/-- THE SECOND FORM's CARD OF 'cruciblelaw21.Readies'. -/
def readiesUptoCard : Claim7 := { stood := { row := readiesUptoRow, standIns := [], harness := (true, "d3a6dfc38adbf419c89533840f25ba36368ab358f9f5ebce38d7d4f612e7f0a8"), looks := false }, kinds := [], alts := [], laidByText := true, laidKinds := [.data, .pinned], laidTests := true, laidLooks := .later }
def ReadiesUptoCardSaid : Prop := Claim7.holds Tryz.pinned (.plain (OpenSpec.upto readiesSpec)) readiesUptoCard

/-- THE SECOND FORM's CARD OF 'cruciblelaw21.ReadyTable'. -/
def readyTableUptoCard : Claim7 := { stood := { row := readyTableUptoRow, standIns := [], harness := (true, "d3a6dfc38adbf419c89533840f25ba36368ab358f9f5ebce38d7d4f612e7f0a8"), looks := false }, kinds := [], alts := [], laidByText := true, laidKinds := [.data, .pinned], laidTests := true, laidLooks := .later }
def ReadyTableUptoCardSaid : Prop := Claim7.holds Tryz.pinned (.plain (OpenSpec.upto readyTableSpec)) readyTableUptoCard

/-- THE SECOND FORM's CARD OF 'cruciblelaw21.ReadyForms'. -/
def readyFormsUptoCard : Claim7 := { stood := { row := readyFormsUptoRow, standIns := [], harness := (true, "d3a6dfc38adbf419c89533840f25ba36368ab358f9f5ebce38d7d4f612e7f0a8"), looks := false }, kinds := [], alts := [], laidByText := true, laidKinds := [.data, .pinned], laidTests := true, laidLooks := .later }
def ReadyFormsUptoCardSaid : Prop := Claim7.holds Tryz.pinned (.plain (OpenSpec.upto readyFormsSpec)) readyFormsUptoCard

/-- THE SECOND FORM's CARD OF 'cruciblelaw21.ReadyNeeds'. -/
def readyNeedsUptoCard : Claim7 := { stood := { row := readyNeedsUptoRow, standIns := [], harness := (true, "d3a6dfc38adbf419c89533840f25ba36368ab358f9f5ebce38d7d4f612e7f0a8"), looks := false }, kinds := [], alts := [], laidByText := true, laidKinds := [.data, .pinned], laidTests := true, laidLooks := .later }
def ReadyNeedsUptoCardSaid : Prop := Claim7.holds Tryz.pinned (.plain (OpenSpec.upto readyNeedsSpec)) readyNeedsUptoCard

/-- THE SECOND FORM's CARD OF 'cruciblelaw22.Rooms'. -/
def roomsUptoCard : Claim7 := { stood := { row := roomsUptoRow, standIns := [], harness := (true, "d3a6dfc38adbf419c89533840f25ba36368ab358f9f5ebce38d7d4f612e7f0a8"), looks := false }, kinds := [], alts := [], laidByText := true, laidKinds := [.data, .pinned], laidTests := true, laidLooks := .later }
def RoomsUptoCardSaid : Prop := Claim7.holds Tryz.pinned (.plain (OpenSpec.upto roomsSpec)) roomsUptoCard

/-- THE SECOND FORM's CARD OF 'cruciblelaw22.RoomTable'. -/
def roomTableUptoCard : Claim7 := { stood := { row := roomTableUptoRow, standIns := [], harness := (true, "d3a6dfc38adbf419c89533840f25ba36368ab358f9f5ebce38d7d4f612e7f0a8"), looks := false }, kinds := [], alts := [], laidByText := true, laidKinds := [.data, .pinned], laidTests := true, laidLooks := .later }
def RoomTableUptoCardSaid : Prop := Claim7.holds Tryz.pinned (.plain (OpenSpec.upto roomTableSpec)) roomTableUptoCard

/-- THE SECOND FORM's CARD OF 'cruciblelaw22.RoomForms'. -/
def roomFormsUptoCard : Claim7 := { stood := { row := roomFormsUptoRow, standIns := [], harness := (true, "d3a6dfc38adbf419c89533840f25ba36368ab358f9f5ebce38d7d4f612e7f0a8"), looks := false }, kinds := [], alts := [], laidByText := true, laidKinds := [.data, .pinned], laidTests := true, laidLooks := .later }
def RoomFormsUptoCardSaid : Prop := Claim7.holds Tryz.pinned (.plain (OpenSpec.upto roomFormsSpec)) roomFormsUptoCard

/-- THE SECOND FORM's CARD OF 'cruciblelaw22.RoomLess'. -/
def roomLessUptoCard : Claim7 := { stood := { row := roomLessUptoRow, standIns := [], harness := (true, "d3a6dfc38adbf419c89533840f25ba36368ab358f9f5ebce38d7d4f612e7f0a8"), looks := false }, kinds := [], alts := [], laidByText := true, laidKinds := [.data, .pinned], laidTests := true, laidLooks := .later }
def RoomLessUptoCardSaid : Prop := Claim7.holds Tryz.pinned (.plain (OpenSpec.upto roomLessSpec)) roomLessUptoCard
end Rows
end Go.Proofs.YthagoaoenalmbaaGreatDoor

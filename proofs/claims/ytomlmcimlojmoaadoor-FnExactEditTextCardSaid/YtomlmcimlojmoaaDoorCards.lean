/-
  DERIVED. GIVEN WITH THE SEED: THE CARDS: each row of YtomlmcimlojmoaaDoorRows.lean that lists a variable, with what it lists TIED to the program's text (the seventh form; the later family's looks); each row that meets fmt, with fmt's text TOLD by the authors' own Lean function (tested against real Go, not proved from fmt's source: count such statements apart). THE CARD IS WHAT COUNTS. Prove the row's statement (the work); the ties are given (YtomlmcimlojmoaaDoorTie.lean); close each card by the builder's one call (the guide's Derived/Test/ToyasCard.lean, 'card_holds'). Laid BY PROGRAM, IN A SANDBOX (cutbox-door.mjs). By AI agents, Wed Nov 11 2026. No macro, syntax, notation, axiom, sorry.
-/
import Derived.Test.YtomlmcimlojmoaaDoorRows
import GoSem.ClaimSeven
namespace Go.Proofs.YtomlmcimlojmoaaDoor
namespace Rows

/-- THE TIED CARD OF 'laws.FnExactEditText'. -/
def fnExactEditTextCard : Claim7 := { stood := { row := fnExactEditTextRow, standIns := [], harness := (true, "44538f5081219272b5903920184e12a5ed8eb55b8936d25527ab18d06ff9f343"), looks := true }, kinds := [], alts := [], laidByText := true, laidKinds := [.data, .data, .data], laidTests := true, laidLooks := .later }
def FnExactEditTextCardSaid : Prop := Claim7.holds Tryd.pinned (.plain (OpenSpec.ofChange fnExactEditTextSpec)) fnExactEditTextCard

/-- THE TIED CARD OF 'laws.FnExactReadSchema'. -/
def fnExactReadSchemaCard : Claim7 := { stood := { row := fnExactReadSchemaRow, standIns := [], harness := (true, "44538f5081219272b5903920184e12a5ed8eb55b8936d25527ab18d06ff9f343"), looks := true }, kinds := [], alts := [], laidByText := true, laidKinds := [.data, .pinned], laidTests := true, laidLooks := .later }
def FnExactReadSchemaCardSaid : Prop := Claim7.holds Tryd.pinned (.plain (OpenSpec.ofChange fnExactReadSchemaSpec)) fnExactReadSchemaCard

/-- THE TIED CARD OF 'laws.FnExactReadEdit'. -/
def fnExactReadEditCard : Claim7 := { stood := { row := fnExactReadEditRow, standIns := [], harness := (true, "44538f5081219272b5903920184e12a5ed8eb55b8936d25527ab18d06ff9f343"), looks := true }, kinds := [], alts := [], laidByText := true, laidKinds := [.data, .data, .data, .data, .sentinel, .sentinel, .pinned], laidTests := true, laidLooks := .later }
def FnExactReadEditCardSaid : Prop := Claim7.holds Tryd.pinned (.plain (OpenSpec.ofChange fnExactReadEditSpec)) fnExactReadEditCard

/-- THE TIED CARD OF 'laws.FnExactDemoSchema'. -/
def fnExactDemoSchemaCard : Claim7 := { stood := { row := fnExactDemoSchemaRow, standIns := [], harness := (true, "44538f5081219272b5903920184e12a5ed8eb55b8936d25527ab18d06ff9f343"), looks := true }, kinds := [], alts := [], laidByText := true, laidKinds := [.data, .pinned], laidTests := true, laidLooks := .later }
def FnExactDemoSchemaCardSaid : Prop := Claim7.holds Tryd.pinned (.plain (OpenSpec.ofChange fnExactDemoSchemaSpec)) fnExactDemoSchemaCard

/-- THE TIED CARD OF 'laws.FnSchema'. -/
def fnSchemaCard : Claim7 := { stood := { row := fnSchemaRow, standIns := [], harness := (true, "44538f5081219272b5903920184e12a5ed8eb55b8936d25527ab18d06ff9f343"), looks := true }, kinds := [], alts := [], laidByText := true, laidKinds := [.data, .pinned], laidTests := true, laidLooks := .later }
def FnSchemaCardSaid : Prop := Claim7.holds Tryd.pinned (.plain (OpenSpec.ofChange fnSchemaSpec)) fnSchemaCard

/-- THE SECOND FORM's CARD OF 'laws.FnExactEditText'. -/
def fnExactEditTextUptoCard : Claim7 := { stood := { row := fnExactEditTextUptoRow, standIns := [], harness := (true, "44538f5081219272b5903920184e12a5ed8eb55b8936d25527ab18d06ff9f343"), looks := true }, kinds := [], alts := [], laidByText := true, laidKinds := [.data, .data, .data], laidTests := true, laidLooks := .later }
def FnExactEditTextUptoCardSaid : Prop := Claim7.holds Tryd.pinned (.plain (OpenSpec.upto fnExactEditTextSpec)) fnExactEditTextUptoCard

/-- THE SECOND FORM's CARD OF 'laws.FnExactReadSchema'. -/
def fnExactReadSchemaUptoCard : Claim7 := { stood := { row := fnExactReadSchemaUptoRow, standIns := [], harness := (true, "44538f5081219272b5903920184e12a5ed8eb55b8936d25527ab18d06ff9f343"), looks := true }, kinds := [], alts := [], laidByText := true, laidKinds := [.data, .pinned], laidTests := true, laidLooks := .later }
def FnExactReadSchemaUptoCardSaid : Prop := Claim7.holds Tryd.pinned (.plain (OpenSpec.upto fnExactReadSchemaSpec)) fnExactReadSchemaUptoCard

/-- THE SECOND FORM's CARD OF 'laws.FnExactReadEdit'. -/
def fnExactReadEditUptoCard : Claim7 := { stood := { row := fnExactReadEditUptoRow, standIns := [], harness := (true, "44538f5081219272b5903920184e12a5ed8eb55b8936d25527ab18d06ff9f343"), looks := true }, kinds := [], alts := [], laidByText := true, laidKinds := [.data, .data, .data, .data, .sentinel, .sentinel, .pinned], laidTests := true, laidLooks := .later }
def FnExactReadEditUptoCardSaid : Prop := Claim7.holds Tryd.pinned (.plain (OpenSpec.upto fnExactReadEditSpec)) fnExactReadEditUptoCard

/-- THE SECOND FORM's CARD OF 'laws.FnExactDemoSchema'. -/
def fnExactDemoSchemaUptoCard : Claim7 := { stood := { row := fnExactDemoSchemaUptoRow, standIns := [], harness := (true, "44538f5081219272b5903920184e12a5ed8eb55b8936d25527ab18d06ff9f343"), looks := true }, kinds := [], alts := [], laidByText := true, laidKinds := [.data, .pinned], laidTests := true, laidLooks := .later }
def FnExactDemoSchemaUptoCardSaid : Prop := Claim7.holds Tryd.pinned (.plain (OpenSpec.upto fnExactDemoSchemaSpec)) fnExactDemoSchemaUptoCard

/-- THE SECOND FORM's CARD OF 'laws.FnSchema'. -/
def fnSchemaUptoCard : Claim7 := { stood := { row := fnSchemaUptoRow, standIns := [], harness := (true, "44538f5081219272b5903920184e12a5ed8eb55b8936d25527ab18d06ff9f343"), looks := true }, kinds := [], alts := [], laidByText := true, laidKinds := [.data, .pinned], laidTests := true, laidLooks := .later }
def FnSchemaUptoCardSaid : Prop := Claim7.holds Tryd.pinned (.plain (OpenSpec.upto fnSchemaSpec)) fnSchemaUptoCard
end Rows
end Go.Proofs.YtomlmcimlojmoaaDoor

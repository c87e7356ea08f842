/-
  DERIVED. GIVEN WITH THE SEED: THE CARDS: each row of YtgdjpbknlbhaeaaDoorRows.lean that lists a variable, with what it lists TIED to the program's text (the seventh form; the later family's looks); each row that meets fmt, with fmt's text TOLD by the authors' own Lean function (tested against real Go, not proved from fmt's source: count such statements apart). THE CARD IS WHAT COUNTS. Prove the row's statement (the work); the ties are given (YtgdjpbknlbhaeaaDoorTie.lean); close each card by the builder's one call (the guide's Derived/Test/ToyasCard.lean, 'card_holds'). Laid BY PROGRAM, IN A SANDBOX (cutbox-door.mjs). By AI agents, Wed Nov 11 2026. No macro, syntax, notation, axiom, sorry.
-/
import Derived.Test.YtgdjpbknlbhaeaaDoorRows
import GoSem.ClaimSeven
namespace Go.Proofs.YtgdjpbknlbhaeaaDoor
namespace Rows

/-- THE TIED CARD OF 'laws.FnExactReadInstr'. -/
def fnExactReadInstrCard : Claim7 := { stood := { row := fnExactReadInstrRow, standIns := [], harness := (true, "68468a88414345b6c15928dbce603a49823e0e281916884577f660001e880462"), looks := true }, kinds := [], alts := [], laidByText := true, laidKinds := [.data, .data, .data, .data, .sentinel, .sentinel, .pinned], laidTests := true, laidLooks := .later }
def FnExactReadInstrCardSaid : Prop := Claim7.holds Tryd.pinned (.plain (OpenSpec.ofChange fnExactReadInstrSpec)) fnExactReadInstrCard

/-- THE TIED CARD OF 'laws.FnExactInstrText'. -/
def fnExactInstrTextCard : Claim7 := { stood := { row := fnExactInstrTextRow, standIns := [], harness := (true, "68468a88414345b6c15928dbce603a49823e0e281916884577f660001e880462"), looks := true }, kinds := [], alts := [], laidByText := true, laidKinds := [.data, .data, .data], laidTests := true, laidLooks := .later }
def FnExactInstrTextCardSaid : Prop := Claim7.holds Tryd.pinned (.plain (OpenSpec.ofChange fnExactInstrTextSpec)) fnExactInstrTextCard

/-- THE SECOND FORM's CARD OF 'laws.FnExactReadInstr'. -/
def fnExactReadInstrUptoCard : Claim7 := { stood := { row := fnExactReadInstrUptoRow, standIns := [], harness := (true, "68468a88414345b6c15928dbce603a49823e0e281916884577f660001e880462"), looks := true }, kinds := [], alts := [], laidByText := true, laidKinds := [.data, .data, .data, .data, .sentinel, .sentinel, .pinned], laidTests := true, laidLooks := .later }
def FnExactReadInstrUptoCardSaid : Prop := Claim7.holds Tryd.pinned (.plain (OpenSpec.upto fnExactReadInstrSpec)) fnExactReadInstrUptoCard

/-- THE SECOND FORM's CARD OF 'laws.FnExactInstrText'. -/
def fnExactInstrTextUptoCard : Claim7 := { stood := { row := fnExactInstrTextUptoRow, standIns := [], harness := (true, "68468a88414345b6c15928dbce603a49823e0e281916884577f660001e880462"), looks := true }, kinds := [], alts := [], laidByText := true, laidKinds := [.data, .data, .data], laidTests := true, laidLooks := .later }
def FnExactInstrTextUptoCardSaid : Prop := Claim7.holds Tryd.pinned (.plain (OpenSpec.upto fnExactInstrTextSpec)) fnExactInstrTextUptoCard
end Rows
end Go.Proofs.YtgdjpbknlbhaeaaDoor

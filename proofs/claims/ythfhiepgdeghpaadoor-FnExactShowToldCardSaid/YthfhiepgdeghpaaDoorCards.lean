/-
  DERIVED. GIVEN WITH THE SEED: THE CARDS: each row of YthfhiepgdeghpaaDoorRows.lean that lists a variable, with what it lists TIED to the program's text (the seventh form; the later family's looks); each row that meets fmt, with fmt's text TOLD by the authors' own Lean function (tested against real Go, not proved from fmt's source: count such statements apart). THE CARD IS WHAT COUNTS. Prove the row's statement (the work); the ties are given (YthfhiepgdeghpaaDoorTie.lean); close each card by the builder's one call (the guide's Derived/Test/ToyasCard.lean, 'card_holds'). Laid BY PROGRAM, IN A SANDBOX (cutbox-door.mjs). By AI agents, Wed Nov 11 2026. No macro, syntax, notation, axiom, sorry.
-/
import Derived.Test.YthfhiepgdeghpaaDoorRows
import GoSem.ClaimSeven
namespace Go.Proofs.YthfhiepgdeghpaaDoor
namespace Rows

/-- THE TIED CARD OF 'laws.FnExactShowTold'. -/
def fnExactShowToldCard : Claim7 := { stood := { row := fnExactShowToldRow, standIns := [], harness := (true, "37c8be55d40abdd6399d8766d1d9e65beb954bfd2e989d09ca690d6a9368845e"), looks := false }, kinds := [], alts := [], laidByText := true, laidKinds := [.data, .data, .data], laidTests := true, laidLooks := .later }
def FnExactShowToldCardSaid : Prop := Claim7.holds Tryd.pinned (.plain (OpenSpec.ofChange fnExactShowToldSpec)) fnExactShowToldCard

/-- THE TIED CARD OF 'laws.FnExactReadIntent'. -/
def fnExactReadIntentCard : Claim7 := { stood := { row := fnExactReadIntentRow, standIns := [], harness := (true, "37c8be55d40abdd6399d8766d1d9e65beb954bfd2e989d09ca690d6a9368845e"), looks := false }, kinds := [], alts := [], laidByText := true, laidKinds := [.data, .data, .data], laidTests := true, laidLooks := .later }
def FnExactReadIntentCardSaid : Prop := Claim7.holds Tryd.pinned (.plain (OpenSpec.ofChange fnExactReadIntentSpec)) fnExactReadIntentCard

/-- THE TIED CARD OF 'laws.FnIntents'. -/
def fnIntentsCard : Claim7 := { stood := { row := fnIntentsRow, standIns := [], harness := (true, "37c8be55d40abdd6399d8766d1d9e65beb954bfd2e989d09ca690d6a9368845e"), looks := false }, kinds := [], alts := [], laidByText := true, laidKinds := [.data, .data, .data], laidTests := true, laidLooks := .later }
def FnIntentsCardSaid : Prop := Claim7.holds Tryd.pinned (.plain (OpenSpec.ofChange fnIntentsSpec)) fnIntentsCard

/-- THE SECOND FORM's CARD OF 'laws.FnExactShowTold'. -/
def fnExactShowToldUptoCard : Claim7 := { stood := { row := fnExactShowToldUptoRow, standIns := [], harness := (true, "37c8be55d40abdd6399d8766d1d9e65beb954bfd2e989d09ca690d6a9368845e"), looks := false }, kinds := [], alts := [], laidByText := true, laidKinds := [.data, .data, .data], laidTests := true, laidLooks := .later }
def FnExactShowToldUptoCardSaid : Prop := Claim7.holds Tryd.pinned (.plain (OpenSpec.upto fnExactShowToldSpec)) fnExactShowToldUptoCard

/-- THE SECOND FORM's CARD OF 'laws.FnExactReadIntent'. -/
def fnExactReadIntentUptoCard : Claim7 := { stood := { row := fnExactReadIntentUptoRow, standIns := [], harness := (true, "37c8be55d40abdd6399d8766d1d9e65beb954bfd2e989d09ca690d6a9368845e"), looks := false }, kinds := [], alts := [], laidByText := true, laidKinds := [.data, .data, .data], laidTests := true, laidLooks := .later }
def FnExactReadIntentUptoCardSaid : Prop := Claim7.holds Tryd.pinned (.plain (OpenSpec.upto fnExactReadIntentSpec)) fnExactReadIntentUptoCard

/-- THE SECOND FORM's CARD OF 'laws.FnIntents'. -/
def fnIntentsUptoCard : Claim7 := { stood := { row := fnIntentsUptoRow, standIns := [], harness := (true, "37c8be55d40abdd6399d8766d1d9e65beb954bfd2e989d09ca690d6a9368845e"), looks := false }, kinds := [], alts := [], laidByText := true, laidKinds := [.data, .data, .data], laidTests := true, laidLooks := .later }
def FnIntentsUptoCardSaid : Prop := Claim7.holds Tryd.pinned (.plain (OpenSpec.upto fnIntentsSpec)) fnIntentsUptoCard
end Rows
end Go.Proofs.YthfhiepgdeghpaaDoor

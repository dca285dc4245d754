/-
  DERIVED. GIVEN WITH THE SEED: THE CARDS: each row of YtjplcongellcmaaDoorRows.lean that lists a variable, with what it lists TIED to the program's text (the seventh form; the later family's looks); each row that meets fmt, with fmt's text TOLD by the authors' own Lean function (tested against real Go, not proved from fmt's source: count such statements apart). THE CARD IS WHAT COUNTS. Prove the row's statement (the work); the ties are given (YtjplcongellcmaaDoorTie.lean); close each card by the builder's one call (the guide's Derived/Test/ToyasCard.lean, 'card_holds'). Laid BY PROGRAM, IN A SANDBOX (cutbox-door.mjs). By AI agents, Wed Nov 11 2026. No macro, syntax, notation, axiom, sorry.
-/
import Derived.Test.YtjplcongellcmaaDoorRows
import GoSem.ClaimSeven
namespace Go.Proofs.YtjplcongellcmaaDoor
namespace Rows

/-- THE TIED CARD OF 'laws.FnTonesFound'. -/
def fnTonesFoundCard : Claim7 := { stood := { row := fnTonesFoundRow, standIns := [], harness := (true, "3324820354d69a5225f1c14a2e5d745fab17c7e4649e061711357f4e24b5ffb5"), looks := false }, kinds := [], alts := [], laidByText := true, laidKinds := [.widerDeep, .widerDeep], laidTests := true, laidLooks := .later }
def FnTonesFoundCardSaid : Prop := Claim7.holds Tryd.pinned (.plain (OpenSpec.ofChange fnTonesFoundSpec)) fnTonesFoundCard

/-- THE TIED CARD OF 'laws.FnExactCountOutputs'. -/
def fnExactCountOutputsCard : Claim7 := { stood := { row := fnExactCountOutputsRow, standIns := [], harness := (true, "3324820354d69a5225f1c14a2e5d745fab17c7e4649e061711357f4e24b5ffb5"), looks := false }, kinds := [], alts := [], laidByText := true, laidKinds := [.data, .data, .data], laidTests := true, laidLooks := .later }
def FnExactCountOutputsCardSaid : Prop := Claim7.holds Tryd.pinned (.plain (OpenSpec.ofChange fnExactCountOutputsSpec)) fnExactCountOutputsCard

/-- THE SECOND FORM's CARD OF 'laws.FnTonesFound'. -/
def fnTonesFoundUptoCard : Claim7 := { stood := { row := fnTonesFoundUptoRow, standIns := [], harness := (true, "3324820354d69a5225f1c14a2e5d745fab17c7e4649e061711357f4e24b5ffb5"), looks := false }, kinds := [], alts := [], laidByText := true, laidKinds := [.widerDeep, .widerDeep], laidTests := true, laidLooks := .later }
def FnTonesFoundUptoCardSaid : Prop := Claim7.holds Tryd.pinned (.plain (OpenSpec.upto fnTonesFoundSpec)) fnTonesFoundUptoCard

/-- THE SECOND FORM's CARD OF 'laws.FnExactCountOutputs'. -/
def fnExactCountOutputsUptoCard : Claim7 := { stood := { row := fnExactCountOutputsUptoRow, standIns := [], harness := (true, "3324820354d69a5225f1c14a2e5d745fab17c7e4649e061711357f4e24b5ffb5"), looks := false }, kinds := [], alts := [], laidByText := true, laidKinds := [.data, .data, .data], laidTests := true, laidLooks := .later }
def FnExactCountOutputsUptoCardSaid : Prop := Claim7.holds Tryd.pinned (.plain (OpenSpec.upto fnExactCountOutputsSpec)) fnExactCountOutputsUptoCard
end Rows
end Go.Proofs.YtjplcongellcmaaDoor

/-
  DERIVED. GIVEN WITH THE SEED: THE CARDS: each row of YtfjhlehaeephmaaDoorRows.lean that lists a variable, with what it lists TIED to the program's text (the seventh form; the later family's looks); each row that meets fmt, with fmt's text TOLD by the authors' own Lean function (tested against real Go, not proved from fmt's source: count such statements apart). THE CARD IS WHAT COUNTS. Prove the row's statement (the work); the ties are given (YtfjhlehaeephmaaDoorTie.lean); close each card by the builder's one call (the guide's Derived/Test/ToyasCard.lean, 'card_holds'). Laid BY PROGRAM, IN A SANDBOX (cutbox-door.mjs). By AI agents, Wed Nov 11 2026. No macro, syntax, notation, axiom, sorry.
-/
import Derived.Test.YtfjhlehaeephmaaDoorRows
import GoSem.ClaimSeven
namespace Go.Proofs.YtfjhlehaeephmaaDoor
namespace Rows

/-- THE TIED CARD OF 'laws.FnExactToneOfPart'. -/
def fnExactToneOfPartCard : Claim7 := { stood := { row := fnExactToneOfPartRow, standIns := [], harness := (true, "c2354b4e5c3a7def928d3cef6aad755a316d32c369d1746469219c642eb28d3c"), looks := false }, kinds := [], alts := [], laidByText := true, laidKinds := [.widerDeep, .widerDeep], laidTests := true, laidLooks := .later }
def FnExactToneOfPartCardSaid : Prop := Claim7.holds Tryd.pinned (.plain (OpenSpec.ofChange fnExactToneOfPartSpec)) fnExactToneOfPartCard

/-- THE TIED CARD OF 'laws.FnExactFourTone'. -/
def fnExactFourToneCard : Claim7 := { stood := { row := fnExactFourToneRow, standIns := [], harness := (true, "c2354b4e5c3a7def928d3cef6aad755a316d32c369d1746469219c642eb28d3c"), looks := false }, kinds := [], alts := [], laidByText := true, laidKinds := [.widerDeep, .widerDeep], laidTests := true, laidLooks := .later }
def FnExactFourToneCardSaid : Prop := Claim7.holds Tryd.pinned (.plain (OpenSpec.ofChange fnExactFourToneSpec)) fnExactFourToneCard

/-- THE TIED CARD OF 'laws.FnExactSixTone'. -/
def fnExactSixToneCard : Claim7 := { stood := { row := fnExactSixToneRow, standIns := [], harness := (true, "c2354b4e5c3a7def928d3cef6aad755a316d32c369d1746469219c642eb28d3c"), looks := false }, kinds := [], alts := [], laidByText := true, laidKinds := [.widerDeep, .widerDeep], laidTests := true, laidLooks := .later }
def FnExactSixToneCardSaid : Prop := Claim7.holds Tryd.pinned (.plain (OpenSpec.ofChange fnExactSixToneSpec)) fnExactSixToneCard

/-- THE TIED CARD OF 'laws.FnExactFourPowers'. -/
def fnExactFourPowersCard : Claim7 := { stood := { row := fnExactFourPowersRow, standIns := [], harness := (true, "c2354b4e5c3a7def928d3cef6aad755a316d32c369d1746469219c642eb28d3c"), looks := false }, kinds := [], alts := [], laidByText := true, laidKinds := [.widerDeep, .widerDeep], laidTests := true, laidLooks := .later }
def FnExactFourPowersCardSaid : Prop := Claim7.holds Tryd.pinned (.plain (OpenSpec.ofChange fnExactFourPowersSpec)) fnExactFourPowersCard

/-- THE TIED CARD OF 'laws.FnExactSixPowers'. -/
def fnExactSixPowersCard : Claim7 := { stood := { row := fnExactSixPowersRow, standIns := [], harness := (true, "c2354b4e5c3a7def928d3cef6aad755a316d32c369d1746469219c642eb28d3c"), looks := false }, kinds := [], alts := [], laidByText := true, laidKinds := [.widerDeep, .widerDeep], laidTests := true, laidLooks := .later }
def FnExactSixPowersCardSaid : Prop := Claim7.holds Tryd.pinned (.plain (OpenSpec.ofChange fnExactSixPowersSpec)) fnExactSixPowersCard

/-- THE TIED CARD OF 'laws.FnExactStrongestPart'. -/
def fnExactStrongestPartCard : Claim7 := { stood := { row := fnExactStrongestPartRow, standIns := [], harness := (true, "c2354b4e5c3a7def928d3cef6aad755a316d32c369d1746469219c642eb28d3c"), looks := false }, kinds := [], alts := [], laidByText := true, laidKinds := [.widerDeep, .widerDeep], laidTests := true, laidLooks := .later }
def FnExactStrongestPartCardSaid : Prop := Claim7.holds Tryd.pinned (.plain (OpenSpec.ofChange fnExactStrongestPartSpec)) fnExactStrongestPartCard

/-- THE SECOND FORM's CARD OF 'laws.FnExactToneOfPart'. -/
def fnExactToneOfPartUptoCard : Claim7 := { stood := { row := fnExactToneOfPartUptoRow, standIns := [], harness := (true, "c2354b4e5c3a7def928d3cef6aad755a316d32c369d1746469219c642eb28d3c"), looks := false }, kinds := [], alts := [], laidByText := true, laidKinds := [.widerDeep, .widerDeep], laidTests := true, laidLooks := .later }
def FnExactToneOfPartUptoCardSaid : Prop := Claim7.holds Tryd.pinned (.plain (OpenSpec.upto fnExactToneOfPartSpec)) fnExactToneOfPartUptoCard

/-- THE SECOND FORM's CARD OF 'laws.FnExactFourTone'. -/
def fnExactFourToneUptoCard : Claim7 := { stood := { row := fnExactFourToneUptoRow, standIns := [], harness := (true, "c2354b4e5c3a7def928d3cef6aad755a316d32c369d1746469219c642eb28d3c"), looks := false }, kinds := [], alts := [], laidByText := true, laidKinds := [.widerDeep, .widerDeep], laidTests := true, laidLooks := .later }
def FnExactFourToneUptoCardSaid : Prop := Claim7.holds Tryd.pinned (.plain (OpenSpec.upto fnExactFourToneSpec)) fnExactFourToneUptoCard

/-- THE SECOND FORM's CARD OF 'laws.FnExactSixTone'. -/
def fnExactSixToneUptoCard : Claim7 := { stood := { row := fnExactSixToneUptoRow, standIns := [], harness := (true, "c2354b4e5c3a7def928d3cef6aad755a316d32c369d1746469219c642eb28d3c"), looks := false }, kinds := [], alts := [], laidByText := true, laidKinds := [.widerDeep, .widerDeep], laidTests := true, laidLooks := .later }
def FnExactSixToneUptoCardSaid : Prop := Claim7.holds Tryd.pinned (.plain (OpenSpec.upto fnExactSixToneSpec)) fnExactSixToneUptoCard

/-- THE SECOND FORM's CARD OF 'laws.FnExactFourPowers'. -/
def fnExactFourPowersUptoCard : Claim7 := { stood := { row := fnExactFourPowersUptoRow, standIns := [], harness := (true, "c2354b4e5c3a7def928d3cef6aad755a316d32c369d1746469219c642eb28d3c"), looks := false }, kinds := [], alts := [], laidByText := true, laidKinds := [.widerDeep, .widerDeep], laidTests := true, laidLooks := .later }
def FnExactFourPowersUptoCardSaid : Prop := Claim7.holds Tryd.pinned (.plain (OpenSpec.upto fnExactFourPowersSpec)) fnExactFourPowersUptoCard

/-- THE SECOND FORM's CARD OF 'laws.FnExactSixPowers'. -/
def fnExactSixPowersUptoCard : Claim7 := { stood := { row := fnExactSixPowersUptoRow, standIns := [], harness := (true, "c2354b4e5c3a7def928d3cef6aad755a316d32c369d1746469219c642eb28d3c"), looks := false }, kinds := [], alts := [], laidByText := true, laidKinds := [.widerDeep, .widerDeep], laidTests := true, laidLooks := .later }
def FnExactSixPowersUptoCardSaid : Prop := Claim7.holds Tryd.pinned (.plain (OpenSpec.upto fnExactSixPowersSpec)) fnExactSixPowersUptoCard

/-- THE SECOND FORM's CARD OF 'laws.FnExactStrongestPart'. -/
def fnExactStrongestPartUptoCard : Claim7 := { stood := { row := fnExactStrongestPartUptoRow, standIns := [], harness := (true, "c2354b4e5c3a7def928d3cef6aad755a316d32c369d1746469219c642eb28d3c"), looks := false }, kinds := [], alts := [], laidByText := true, laidKinds := [.widerDeep, .widerDeep], laidTests := true, laidLooks := .later }
def FnExactStrongestPartUptoCardSaid : Prop := Claim7.holds Tryd.pinned (.plain (OpenSpec.upto fnExactStrongestPartSpec)) fnExactStrongestPartUptoCard
end Rows
end Go.Proofs.YtfjhlehaeephmaaDoor

/-
  DERIVED. GIVEN WITH THE SEED: THE CARDS: each row of YtfpohibbmcfnkaaDoorRows.lean that lists a variable, with what it lists TIED to the program's text (the seventh form; the later family's looks); each row that meets fmt, with fmt's text TOLD by the authors' own Lean function (tested against real Go, not proved from fmt's source: count such statements apart). THE CARD IS WHAT COUNTS. Prove the row's statement (the work); the ties are given (YtfpohibbmcfnkaaDoorTie.lean); close each card by the builder's one call (the guide's Derived/Test/ToyasCard.lean, 'card_holds'). Laid BY PROGRAM, IN A SANDBOX (cutbox-door.mjs). By AI agents, Wed Nov 11 2026. No macro, syntax, notation, axiom, sorry.
-/
import Derived.Test.YtfpohibbmcfnkaaDoorRows
import GoSem.ClaimSeven
namespace Go.Proofs.YtfpohibbmcfnkaaDoor
namespace Rows

/-- THE TIED CARD OF 'laws.FnExactReadFrac'. -/
def fnExactReadFracCard : Claim7 := { stood := { row := fnExactReadFracRow, standIns := [], harness := (true, "a457e13a5784e48a46c02de3ad83bd1d193fae40da5de7b7009aa2e99b883801"), looks := true }, kinds := [], alts := [], laidByText := true, laidKinds := [.data, .data, .data, .sentinel, .sentinel], laidTests := true, laidLooks := .later }
def FnExactReadFracCardSaid : Prop := Claim7.holds Tryd.pinned (.plain (OpenSpec.ofChange fnExactReadFracSpec)) fnExactReadFracCard

/-- THE TIED CARD OF 'laws.FnFracText'. -/
def fnFracTextCard : Claim7 := { stood := { row := fnFracTextRow, standIns := [], harness := (true, "a457e13a5784e48a46c02de3ad83bd1d193fae40da5de7b7009aa2e99b883801"), looks := true }, kinds := [], alts := [], laidByText := true, laidKinds := [.data, .data, .data, .sentinel, .sentinel], laidTests := true, laidLooks := .later }
def FnFracTextCardSaid : Prop := Claim7.holds Tryd.pinned (.plain (OpenSpec.ofChange fnFracTextSpec)) fnFracTextCard

/-- THE TIED CARD OF 'laws.FnReadFrac'. -/
def fnReadFracCard : Claim7 := { stood := { row := fnReadFracRow, standIns := [], harness := (true, "a457e13a5784e48a46c02de3ad83bd1d193fae40da5de7b7009aa2e99b883801"), looks := true }, kinds := [], alts := [], laidByText := true, laidKinds := [.data, .data, .data, .sentinel, .sentinel], laidTests := true, laidLooks := .later }
def FnReadFracCardSaid : Prop := Claim7.holds Tryd.pinned (.plain (OpenSpec.ofChange fnReadFracSpec)) fnReadFracCard

/-- THE TIED CARD OF 'laws.FnExactFracText'. -/
def fnExactFracTextCard : Claim7 := { stood := { row := fnExactFracTextRow, standIns := [], harness := (true, "a457e13a5784e48a46c02de3ad83bd1d193fae40da5de7b7009aa2e99b883801"), looks := true }, kinds := [], alts := [], laidByText := true, laidKinds := [.data, .data, .data], laidTests := true, laidLooks := .later }
def FnExactFracTextCardSaid : Prop := Claim7.holds Tryd.pinned (.plain (OpenSpec.ofChange fnExactFracTextSpec)) fnExactFracTextCard

/-- THE SECOND FORM's CARD OF 'laws.FnExactReadFrac'. -/
def fnExactReadFracUptoCard : Claim7 := { stood := { row := fnExactReadFracUptoRow, standIns := [], harness := (true, "a457e13a5784e48a46c02de3ad83bd1d193fae40da5de7b7009aa2e99b883801"), looks := true }, kinds := [], alts := [], laidByText := true, laidKinds := [.data, .data, .data, .sentinel, .sentinel], laidTests := true, laidLooks := .later }
def FnExactReadFracUptoCardSaid : Prop := Claim7.holds Tryd.pinned (.plain (OpenSpec.upto fnExactReadFracSpec)) fnExactReadFracUptoCard

/-- THE SECOND FORM's CARD OF 'laws.FnFracText'. -/
def fnFracTextUptoCard : Claim7 := { stood := { row := fnFracTextUptoRow, standIns := [], harness := (true, "a457e13a5784e48a46c02de3ad83bd1d193fae40da5de7b7009aa2e99b883801"), looks := true }, kinds := [], alts := [], laidByText := true, laidKinds := [.data, .data, .data, .sentinel, .sentinel], laidTests := true, laidLooks := .later }
def FnFracTextUptoCardSaid : Prop := Claim7.holds Tryd.pinned (.plain (OpenSpec.upto fnFracTextSpec)) fnFracTextUptoCard

/-- THE SECOND FORM's CARD OF 'laws.FnReadFrac'. -/
def fnReadFracUptoCard : Claim7 := { stood := { row := fnReadFracUptoRow, standIns := [], harness := (true, "a457e13a5784e48a46c02de3ad83bd1d193fae40da5de7b7009aa2e99b883801"), looks := true }, kinds := [], alts := [], laidByText := true, laidKinds := [.data, .data, .data, .sentinel, .sentinel], laidTests := true, laidLooks := .later }
def FnReadFracUptoCardSaid : Prop := Claim7.holds Tryd.pinned (.plain (OpenSpec.upto fnReadFracSpec)) fnReadFracUptoCard

/-- THE SECOND FORM's CARD OF 'laws.FnExactFracText'. -/
def fnExactFracTextUptoCard : Claim7 := { stood := { row := fnExactFracTextUptoRow, standIns := [], harness := (true, "a457e13a5784e48a46c02de3ad83bd1d193fae40da5de7b7009aa2e99b883801"), looks := true }, kinds := [], alts := [], laidByText := true, laidKinds := [.data, .data, .data], laidTests := true, laidLooks := .later }
def FnExactFracTextUptoCardSaid : Prop := Claim7.holds Tryd.pinned (.plain (OpenSpec.upto fnExactFracTextSpec)) fnExactFracTextUptoCard
end Rows
end Go.Proofs.YtfpohibbmcfnkaaDoor

/-
  DERIVED. GIVEN WITH THE SEED: THE CARDS: each row of YtemogjpgkcbaiaaGreatDoorRows.lean that lists a variable, with what it lists TIED to the program's text (the seventh form; the later family's looks); each row that meets fmt, with fmt's text TOLD by the authors' own Lean function (tested against real Go, not proved from fmt's source: count such statements apart). THE CARD IS WHAT COUNTS. Prove the row's statement (the work); the ties are given (YtemogjpgkcbaiaaGreatDoorTie.lean); close each card by the builder's one call (the guide's Derived/Test/ToyasCard.lean, 'card_holds'). Laid BY PROGRAM, IN A SANDBOX (cutbox-door.mjs). By AI agents, Wed Nov 11 2026. No macro, syntax, notation, axiom, sorry.
-/
import Derived.Test.YtemogjpgkcbaiaaGreatDoorRows
import GoSem.ClaimSeven
namespace Go.Proofs.YtemogjpgkcbaiaaGreatDoor
namespace Rows

/-- THE TIED CARD OF 'threadbarelaw08.SpellFormats'. -/
def spellFormatsCard : Claim7 := { stood := { row := spellFormatsRow, standIns := [], harness := (true, "fd365aa8e374a97a26f66e0f1c4ae07ba9ac8b7f8da611fa157cd3cf16f4f617"), looks := true }, kinds := [], alts := [], laidByText := true, laidKinds := [.data, .data, .data, .data, .pinned, .pinned], laidTests := true, laidLooks := .later }
def SpellFormatsCardSaid : Prop := Claim7.holds Tryz.pinned (.plain (OpenSpec.ofChange spellFormatsSpec)) spellFormatsCard

/-- THE TIED CARD OF 'threadbarelaw08.SpellScans'. -/
def spellScansCard : Claim7 := { stood := { row := spellScansRow, standIns := [], harness := (true, "fd365aa8e374a97a26f66e0f1c4ae07ba9ac8b7f8da611fa157cd3cf16f4f617"), looks := true }, kinds := [], alts := [], laidByText := true, laidKinds := [.data, .data, .data, .data, .pinned, .pinned], laidTests := true, laidLooks := .later }
def SpellScansCardSaid : Prop := Claim7.holds Tryz.pinned (.plain (OpenSpec.ofChange spellScansSpec)) spellScansCard

/-- THE SECOND FORM's CARD OF 'threadbarelaw08.SpellFormats'. -/
def spellFormatsUptoCard : Claim7 := { stood := { row := spellFormatsUptoRow, standIns := [], harness := (true, "fd365aa8e374a97a26f66e0f1c4ae07ba9ac8b7f8da611fa157cd3cf16f4f617"), looks := true }, kinds := [], alts := [], laidByText := true, laidKinds := [.data, .data, .data, .data, .pinned, .pinned], laidTests := true, laidLooks := .later }
def SpellFormatsUptoCardSaid : Prop := Claim7.holds Tryz.pinned (.plain (OpenSpec.upto spellFormatsSpec)) spellFormatsUptoCard

/-- THE SECOND FORM's CARD OF 'threadbarelaw08.SpellScans'. -/
def spellScansUptoCard : Claim7 := { stood := { row := spellScansUptoRow, standIns := [], harness := (true, "fd365aa8e374a97a26f66e0f1c4ae07ba9ac8b7f8da611fa157cd3cf16f4f617"), looks := true }, kinds := [], alts := [], laidByText := true, laidKinds := [.data, .data, .data, .data, .pinned, .pinned], laidTests := true, laidLooks := .later }
def SpellScansUptoCardSaid : Prop := Claim7.holds Tryz.pinned (.plain (OpenSpec.upto spellScansSpec)) spellScansUptoCard
end Rows
end Go.Proofs.YtemogjpgkcbaiaaGreatDoor

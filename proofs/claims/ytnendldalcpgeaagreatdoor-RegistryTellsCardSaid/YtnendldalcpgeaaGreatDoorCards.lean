/-
  DERIVED. GIVEN WITH THE SEED: THE CARDS: each row of YtnendldalcpgeaaGreatDoorRows.lean that lists a variable, with what it lists TIED to the program's text (the seventh form; the later family's looks); each row that meets fmt, with fmt's text TOLD by the authors' own Lean function (tested against real Go, not proved from fmt's source: count such statements apart). THE CARD IS WHAT COUNTS. Prove the row's statement (the work); the ties are given (YtnendldalcpgeaaGreatDoorTie.lean); close each card by the builder's one call (the guide's Derived/Test/ToyasCard.lean, 'card_holds'). Laid BY PROGRAM, IN A SANDBOX (cutbox-door.mjs). By AI agents, Wed Nov 11 2026. No macro, syntax, notation, axiom, sorry.
-/
import Derived.Test.YtnendldalcpgeaaGreatDoorRows
import GoSem.ClaimSeven
namespace Go.Proofs.YtnendldalcpgeaaGreatDoor
namespace Rows

/-- THE TIED CARD OF 'allongelaw51.RegistryTells'. -/
def registryTellsCard : Claim7 := { stood := { row := registryTellsRow, standIns := [], harness := (true, "c99b5c90b2a8f71bd6887166657384eaf8ec0a36507a43c941d6f2dc0fab541a"), looks := true }, kinds := [], alts := [], laidByText := true, laidKinds := [.data, .data, .data, .sentinel, .sentinel], laidTests := true, laidLooks := .later }
def RegistryTellsCardSaid : Prop := Claim7.holds Tryz.pinned (.plain (OpenSpec.ofChange registryTellsSpec)) registryTellsCard

/-- THE TIED CARD OF 'allongelaw51.RegistryCrash'. -/
def registryCrashCard : Claim7 := { stood := { row := registryCrashRow, standIns := [], harness := (true, "c99b5c90b2a8f71bd6887166657384eaf8ec0a36507a43c941d6f2dc0fab541a"), looks := true }, kinds := [], alts := [], laidByText := true, laidKinds := [.data, .data, .data, .sentinel, .sentinel], laidTests := true, laidLooks := .later }
def RegistryCrashCardSaid : Prop := Claim7.holds Tryz.pinned (.plain (OpenSpec.ofChange registryCrashSpec)) registryCrashCard

/-- THE TIED CARD OF 'allongelaw51.RegistryAgrees'. -/
def registryAgreesCard : Claim7 := { stood := { row := registryAgreesRow, standIns := [], harness := (true, "c99b5c90b2a8f71bd6887166657384eaf8ec0a36507a43c941d6f2dc0fab541a"), looks := true }, kinds := [], alts := [], laidByText := true, laidKinds := [.data, .data, .data, .sentinel, .sentinel], laidTests := true, laidLooks := .later }
def RegistryAgreesCardSaid : Prop := Claim7.holds Tryz.pinned (.plain (OpenSpec.ofChange registryAgreesSpec)) registryAgreesCard

/-- THE TIED CARD OF 'allongelaw51.RegistryMeets'. -/
def registryMeetsCard : Claim7 := { stood := { row := registryMeetsRow, standIns := [], harness := (true, "c99b5c90b2a8f71bd6887166657384eaf8ec0a36507a43c941d6f2dc0fab541a"), looks := true }, kinds := [], alts := [], laidByText := true, laidKinds := [.data, .data, .data, .sentinel, .sentinel], laidTests := true, laidLooks := .later }
def RegistryMeetsCardSaid : Prop := Claim7.holds Tryz.pinned (.plain (OpenSpec.ofChange registryMeetsSpec)) registryMeetsCard

/-- THE TIED CARD OF 'allongelaw51.RegistryOnce'. -/
def registryOnceCard : Claim7 := { stood := { row := registryOnceRow, standIns := [], harness := (true, "c99b5c90b2a8f71bd6887166657384eaf8ec0a36507a43c941d6f2dc0fab541a"), looks := true }, kinds := [], alts := [], laidByText := true, laidKinds := [.data, .data, .data, .sentinel, .sentinel], laidTests := true, laidLooks := .later }
def RegistryOnceCardSaid : Prop := Claim7.holds Tryz.pinned (.plain (OpenSpec.ofChange registryOnceSpec)) registryOnceCard

/-- THE SECOND FORM's CARD OF 'allongelaw51.RegistryTells'. -/
def registryTellsUptoCard : Claim7 := { stood := { row := registryTellsUptoRow, standIns := [], harness := (true, "c99b5c90b2a8f71bd6887166657384eaf8ec0a36507a43c941d6f2dc0fab541a"), looks := true }, kinds := [], alts := [], laidByText := true, laidKinds := [.data, .data, .data, .sentinel, .sentinel], laidTests := true, laidLooks := .later }
def RegistryTellsUptoCardSaid : Prop := Claim7.holds Tryz.pinned (.plain (OpenSpec.upto registryTellsSpec)) registryTellsUptoCard

/-- THE SECOND FORM's CARD OF 'allongelaw51.RegistryCrash'. -/
def registryCrashUptoCard : Claim7 := { stood := { row := registryCrashUptoRow, standIns := [], harness := (true, "c99b5c90b2a8f71bd6887166657384eaf8ec0a36507a43c941d6f2dc0fab541a"), looks := true }, kinds := [], alts := [], laidByText := true, laidKinds := [.data, .data, .data, .sentinel, .sentinel], laidTests := true, laidLooks := .later }
def RegistryCrashUptoCardSaid : Prop := Claim7.holds Tryz.pinned (.plain (OpenSpec.upto registryCrashSpec)) registryCrashUptoCard

/-- THE SECOND FORM's CARD OF 'allongelaw51.RegistryAgrees'. -/
def registryAgreesUptoCard : Claim7 := { stood := { row := registryAgreesUptoRow, standIns := [], harness := (true, "c99b5c90b2a8f71bd6887166657384eaf8ec0a36507a43c941d6f2dc0fab541a"), looks := true }, kinds := [], alts := [], laidByText := true, laidKinds := [.data, .data, .data, .sentinel, .sentinel], laidTests := true, laidLooks := .later }
def RegistryAgreesUptoCardSaid : Prop := Claim7.holds Tryz.pinned (.plain (OpenSpec.upto registryAgreesSpec)) registryAgreesUptoCard

/-- THE SECOND FORM's CARD OF 'allongelaw51.RegistryMeets'. -/
def registryMeetsUptoCard : Claim7 := { stood := { row := registryMeetsUptoRow, standIns := [], harness := (true, "c99b5c90b2a8f71bd6887166657384eaf8ec0a36507a43c941d6f2dc0fab541a"), looks := true }, kinds := [], alts := [], laidByText := true, laidKinds := [.data, .data, .data, .sentinel, .sentinel], laidTests := true, laidLooks := .later }
def RegistryMeetsUptoCardSaid : Prop := Claim7.holds Tryz.pinned (.plain (OpenSpec.upto registryMeetsSpec)) registryMeetsUptoCard

/-- THE SECOND FORM's CARD OF 'allongelaw51.RegistryOnce'. -/
def registryOnceUptoCard : Claim7 := { stood := { row := registryOnceUptoRow, standIns := [], harness := (true, "c99b5c90b2a8f71bd6887166657384eaf8ec0a36507a43c941d6f2dc0fab541a"), looks := true }, kinds := [], alts := [], laidByText := true, laidKinds := [.data, .data, .data, .sentinel, .sentinel], laidTests := true, laidLooks := .later }
def RegistryOnceUptoCardSaid : Prop := Claim7.holds Tryz.pinned (.plain (OpenSpec.upto registryOnceSpec)) registryOnceUptoCard
end Rows
end Go.Proofs.YtnendldalcpgeaaGreatDoor

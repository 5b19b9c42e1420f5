/-
  DERIVED. GIVEN WITH THE SEED: THE CARDS: each row of YtngphbjigkgeaaaDoorRows.lean that lists a variable, with what it lists TIED to the program's text (the seventh form; the later family's looks); each row that meets fmt, with fmt's text TOLD by the authors' own Lean function (tested against real Go, not proved from fmt's source: count such statements apart). THE CARD IS WHAT COUNTS. Prove the row's statement (the work); the ties are given (YtngphbjigkgeaaaDoorTie.lean); close each card by the builder's one call (the guide's Derived/Test/ToyasCard.lean, 'card_holds'). Laid BY PROGRAM, IN A SANDBOX (cutbox-door.mjs). By AI agents, Wed Nov 11 2026. No macro, syntax, notation, axiom, sorry.
-/
import Derived.Test.YtngphbjigkgeaaaDoorRows
import GoSem.ClaimSeven
namespace Go.Proofs.YtngphbjigkgeaaaDoor
namespace Rows

/-- THE TIED CARD OF 'chancerylaw11.SignCodes'. -/
def signCodesCard : Claim7 := { stood := { row := signCodesRow, standIns := [], harness := (true, "6a6a911913cd64215af49c929692693becceb4ced1ee0f635b8d6e8309b556c6"), looks := true }, kinds := [], alts := [], laidByText := true, laidKinds := [.data, .pinned], laidTests := true, laidLooks := .later }
def SignCodesCardSaid : Prop := Claim7.holds Tryd.pinned (.plain (OpenSpec.ofChange signCodesSpec)) signCodesCard

/-- THE TIED CARD OF 'chancerylaw11.SignOnce'. -/
def signOnceCard : Claim7 := { stood := { row := signOnceRow, standIns := [], harness := (true, "6a6a911913cd64215af49c929692693becceb4ced1ee0f635b8d6e8309b556c6"), looks := true }, kinds := [], alts := [], laidByText := true, laidKinds := [.data, .pinned], laidTests := true, laidLooks := .later }
def SignOnceCardSaid : Prop := Claim7.holds Tryd.pinned (.plain (OpenSpec.ofChange signOnceSpec)) signOnceCard

/-- THE TIED CARD OF 'chancerylaw18.CrlFinds'. -/
def crlFindsCard : Claim7 := { stood := { row := crlFindsRow, standIns := [], harness := (true, "6a6a911913cd64215af49c929692693becceb4ced1ee0f635b8d6e8309b556c6"), looks := true }, kinds := [], alts := [], laidByText := true, laidKinds := [.data, .pinned], laidTests := true, laidLooks := .later }
def CrlFindsCardSaid : Prop := Claim7.holds Tryd.pinned (.plain (OpenSpec.ofChange crlFindsSpec)) crlFindsCard

/-- THE TIED CARD OF 'chancerylaw28.OcspBodies'. -/
def ocspBodiesCard : Claim7 := { stood := { row := ocspBodiesRow, standIns := [], harness := (true, "6a6a911913cd64215af49c929692693becceb4ced1ee0f635b8d6e8309b556c6"), looks := true }, kinds := [], alts := [], laidByText := true, laidKinds := [.data, .pinned], laidTests := true, laidLooks := .later }
def OcspBodiesCardSaid : Prop := Claim7.holds Tryd.pinned (.plain (OpenSpec.ofChange ocspBodiesSpec)) ocspBodiesCard

/-- THE TIED CARD OF 'chancerylaw28.OcspAsked'. -/
def ocspAskedCard : Claim7 := { stood := { row := ocspAskedRow, standIns := [], harness := (true, "6a6a911913cd64215af49c929692693becceb4ced1ee0f635b8d6e8309b556c6"), looks := true }, kinds := [], alts := [], laidByText := true, laidKinds := [.data, .pinned], laidTests := true, laidLooks := .later }
def OcspAskedCardSaid : Prop := Claim7.holds Tryd.pinned (.plain (OpenSpec.ofChange ocspAskedSpec)) ocspAskedCard

/-- THE TIED CARD OF 'chancerylaw18.CrlSorts'. -/
def crlSortsCard : Claim7 := { stood := { row := crlSortsRow, standIns := [], harness := (true, "6a6a911913cd64215af49c929692693becceb4ced1ee0f635b8d6e8309b556c6"), looks := true }, kinds := [], alts := [], laidByText := true, laidKinds := [.data, .pinned], laidTests := true, laidLooks := .later }
def CrlSortsCardSaid : Prop := Claim7.holds Tryd.pinned (.plain (OpenSpec.ofChange crlSortsSpec)) crlSortsCard

/-- THE TIED CARD OF 'chancerylaw18.CrlOrder'. -/
def crlOrderCard : Claim7 := { stood := { row := crlOrderRow, standIns := [], harness := (true, "6a6a911913cd64215af49c929692693becceb4ced1ee0f635b8d6e8309b556c6"), looks := true }, kinds := [], alts := [], laidByText := true, laidKinds := [.data, .pinned], laidTests := true, laidLooks := .later }
def CrlOrderCardSaid : Prop := Claim7.holds Tryd.pinned (.plain (OpenSpec.ofChange crlOrderSpec)) crlOrderCard

/-- THE SECOND FORM's CARD OF 'chancerylaw11.SignCodes'. -/
def signCodesUptoCard : Claim7 := { stood := { row := signCodesUptoRow, standIns := [], harness := (true, "6a6a911913cd64215af49c929692693becceb4ced1ee0f635b8d6e8309b556c6"), looks := true }, kinds := [], alts := [], laidByText := true, laidKinds := [.data, .pinned], laidTests := true, laidLooks := .later }
def SignCodesUptoCardSaid : Prop := Claim7.holds Tryd.pinned (.plain (OpenSpec.upto signCodesSpec)) signCodesUptoCard

/-- THE SECOND FORM's CARD OF 'chancerylaw11.SignOnce'. -/
def signOnceUptoCard : Claim7 := { stood := { row := signOnceUptoRow, standIns := [], harness := (true, "6a6a911913cd64215af49c929692693becceb4ced1ee0f635b8d6e8309b556c6"), looks := true }, kinds := [], alts := [], laidByText := true, laidKinds := [.data, .pinned], laidTests := true, laidLooks := .later }
def SignOnceUptoCardSaid : Prop := Claim7.holds Tryd.pinned (.plain (OpenSpec.upto signOnceSpec)) signOnceUptoCard

/-- THE SECOND FORM's CARD OF 'chancerylaw18.CrlFinds'. -/
def crlFindsUptoCard : Claim7 := { stood := { row := crlFindsUptoRow, standIns := [], harness := (true, "6a6a911913cd64215af49c929692693becceb4ced1ee0f635b8d6e8309b556c6"), looks := true }, kinds := [], alts := [], laidByText := true, laidKinds := [.data, .pinned], laidTests := true, laidLooks := .later }
def CrlFindsUptoCardSaid : Prop := Claim7.holds Tryd.pinned (.plain (OpenSpec.upto crlFindsSpec)) crlFindsUptoCard

/-- THE SECOND FORM's CARD OF 'chancerylaw28.OcspBodies'. -/
def ocspBodiesUptoCard : Claim7 := { stood := { row := ocspBodiesUptoRow, standIns := [], harness := (true, "6a6a911913cd64215af49c929692693becceb4ced1ee0f635b8d6e8309b556c6"), looks := true }, kinds := [], alts := [], laidByText := true, laidKinds := [.data, .pinned], laidTests := true, laidLooks := .later }
def OcspBodiesUptoCardSaid : Prop := Claim7.holds Tryd.pinned (.plain (OpenSpec.upto ocspBodiesSpec)) ocspBodiesUptoCard

/-- THE SECOND FORM's CARD OF 'chancerylaw28.OcspAsked'. -/
def ocspAskedUptoCard : Claim7 := { stood := { row := ocspAskedUptoRow, standIns := [], harness := (true, "6a6a911913cd64215af49c929692693becceb4ced1ee0f635b8d6e8309b556c6"), looks := true }, kinds := [], alts := [], laidByText := true, laidKinds := [.data, .pinned], laidTests := true, laidLooks := .later }
def OcspAskedUptoCardSaid : Prop := Claim7.holds Tryd.pinned (.plain (OpenSpec.upto ocspAskedSpec)) ocspAskedUptoCard

/-- THE SECOND FORM's CARD OF 'chancerylaw18.CrlSorts'. -/
def crlSortsUptoCard : Claim7 := { stood := { row := crlSortsUptoRow, standIns := [], harness := (true, "6a6a911913cd64215af49c929692693becceb4ced1ee0f635b8d6e8309b556c6"), looks := true }, kinds := [], alts := [], laidByText := true, laidKinds := [.data, .pinned], laidTests := true, laidLooks := .later }
def CrlSortsUptoCardSaid : Prop := Claim7.holds Tryd.pinned (.plain (OpenSpec.upto crlSortsSpec)) crlSortsUptoCard

/-- THE SECOND FORM's CARD OF 'chancerylaw18.CrlOrder'. -/
def crlOrderUptoCard : Claim7 := { stood := { row := crlOrderUptoRow, standIns := [], harness := (true, "6a6a911913cd64215af49c929692693becceb4ced1ee0f635b8d6e8309b556c6"), looks := true }, kinds := [], alts := [], laidByText := true, laidKinds := [.data, .pinned], laidTests := true, laidLooks := .later }
def CrlOrderUptoCardSaid : Prop := Claim7.holds Tryd.pinned (.plain (OpenSpec.upto crlOrderSpec)) crlOrderUptoCard
end Rows
end Go.Proofs.YtngphbjigkgeaaaDoor

/-
  DERIVED. GIVEN WITH THE SEED: THE CARDS: each row of YtcnmkdpnbaidgaaGreatDoorRows.lean that lists a variable, with what it lists TIED to the program's text (the seventh form; the later family's looks); each row that meets fmt, with fmt's text TOLD by the authors' own Lean function (tested against real Go, not proved from fmt's source: count such statements apart). THE CARD IS WHAT COUNTS. Prove the row's statement (the work); the ties are given (YtcnmkdpnbaidgaaGreatDoorTie.lean); close each card by the builder's one call (the guide's Derived/Test/ToyasCard.lean, 'card_holds'). Laid BY PROGRAM, IN A SANDBOX (cutbox-door.mjs). By AI agents, Wed Nov 11 2026. No macro, syntax, notation, axiom, sorry.
-/
import Derived.Test.YtcnmkdpnbaidgaaGreatDoorRows
import GoSem.ClaimSeven
namespace Go.Proofs.YtcnmkdpnbaidgaaGreatDoor
namespace Rows

/-- THE TIED CARD OF 'fluxionlaw15.DualUnits'. -/
def dualUnitsCard : Claim7 := { stood := { row := dualUnitsRow, standIns := [], harness := (true, "12d293304533b96634aac677a7546efc3ec2c21e02291f64237086facc67c418"), looks := true }, kinds := [], alts := [], laidByText := true, laidKinds := [.data, .data, .data, .data, .sentinel, .sentinel, .data, .data, .data, .data, .data, .pinned], laidTests := true, laidLooks := .later }
def DualUnitsCardSaid : Prop := Claim7.holds Tryz.pinned (.plain (OpenSpec.ofChange dualUnitsSpec)) dualUnitsCard

/-- THE TIED CARD OF 'fluxionlaw16.JetSums'. -/
def jetSumsCard : Claim7 := { stood := { row := jetSumsRow, standIns := [], harness := (true, "12d293304533b96634aac677a7546efc3ec2c21e02291f64237086facc67c418"), looks := true }, kinds := [], alts := [], laidByText := true, laidKinds := [.data, .data, .data, .data, .sentinel, .sentinel, .data, .data, .data, .data, .data, .pinned], laidTests := true, laidLooks := .later }
def JetSumsCardSaid : Prop := Claim7.holds Tryz.pinned (.plain (OpenSpec.ofChange jetSumsSpec)) jetSumsCard

/-- THE TIED CARD OF 'fluxionlaw16.JetQuotients'. -/
def jetQuotientsCard : Claim7 := { stood := { row := jetQuotientsRow, standIns := [], harness := (true, "12d293304533b96634aac677a7546efc3ec2c21e02291f64237086facc67c418"), looks := true }, kinds := [], alts := [], laidByText := true, laidKinds := [.data, .data, .data, .data, .sentinel, .sentinel, .data, .data, .data, .data, .data, .pinned], laidTests := true, laidLooks := .later }
def JetQuotientsCardSaid : Prop := Claim7.holds Tryz.pinned (.plain (OpenSpec.ofChange jetQuotientsSpec)) jetQuotientsCard

/-- THE TIED CARD OF 'fluxionlaw16.JetValues'. -/
def jetValuesCard : Claim7 := { stood := { row := jetValuesRow, standIns := [], harness := (true, "12d293304533b96634aac677a7546efc3ec2c21e02291f64237086facc67c418"), looks := true }, kinds := [], alts := [], laidByText := true, laidKinds := [.data, .data, .data, .data, .sentinel, .sentinel, .data, .data, .data, .data, .data, .pinned], laidTests := true, laidLooks := .later }
def JetValuesCardSaid : Prop := Claim7.holds Tryz.pinned (.plain (OpenSpec.ofChange jetValuesSpec)) jetValuesCard

/-- THE TIED CARD OF 'fluxionlaw16.JetRing'. -/
def jetRingCard : Claim7 := { stood := { row := jetRingRow, standIns := [], harness := (true, "12d293304533b96634aac677a7546efc3ec2c21e02291f64237086facc67c418"), looks := true }, kinds := [], alts := [], laidByText := true, laidKinds := [.data, .data, .data, .data, .sentinel, .sentinel, .data, .data, .data, .data, .data, .pinned], laidTests := true, laidLooks := .later }
def JetRingCardSaid : Prop := Claim7.holds Tryz.pinned (.plain (OpenSpec.ofChange jetRingSpec)) jetRingCard

/-- THE SECOND FORM's CARD OF 'fluxionlaw15.DualUnits'. -/
def dualUnitsUptoCard : Claim7 := { stood := { row := dualUnitsUptoRow, standIns := [], harness := (true, "12d293304533b96634aac677a7546efc3ec2c21e02291f64237086facc67c418"), looks := true }, kinds := [], alts := [], laidByText := true, laidKinds := [.data, .data, .data, .data, .sentinel, .sentinel, .data, .data, .data, .data, .data, .pinned], laidTests := true, laidLooks := .later }
def DualUnitsUptoCardSaid : Prop := Claim7.holds Tryz.pinned (.plain (OpenSpec.upto dualUnitsSpec)) dualUnitsUptoCard

/-- THE SECOND FORM's CARD OF 'fluxionlaw16.JetSums'. -/
def jetSumsUptoCard : Claim7 := { stood := { row := jetSumsUptoRow, standIns := [], harness := (true, "12d293304533b96634aac677a7546efc3ec2c21e02291f64237086facc67c418"), looks := true }, kinds := [], alts := [], laidByText := true, laidKinds := [.data, .data, .data, .data, .sentinel, .sentinel, .data, .data, .data, .data, .data, .pinned], laidTests := true, laidLooks := .later }
def JetSumsUptoCardSaid : Prop := Claim7.holds Tryz.pinned (.plain (OpenSpec.upto jetSumsSpec)) jetSumsUptoCard

/-- THE SECOND FORM's CARD OF 'fluxionlaw16.JetQuotients'. -/
def jetQuotientsUptoCard : Claim7 := { stood := { row := jetQuotientsUptoRow, standIns := [], harness := (true, "12d293304533b96634aac677a7546efc3ec2c21e02291f64237086facc67c418"), looks := true }, kinds := [], alts := [], laidByText := true, laidKinds := [.data, .data, .data, .data, .sentinel, .sentinel, .data, .data, .data, .data, .data, .pinned], laidTests := true, laidLooks := .later }
def JetQuotientsUptoCardSaid : Prop := Claim7.holds Tryz.pinned (.plain (OpenSpec.upto jetQuotientsSpec)) jetQuotientsUptoCard

/-- THE SECOND FORM's CARD OF 'fluxionlaw16.JetValues'. -/
def jetValuesUptoCard : Claim7 := { stood := { row := jetValuesUptoRow, standIns := [], harness := (true, "12d293304533b96634aac677a7546efc3ec2c21e02291f64237086facc67c418"), looks := true }, kinds := [], alts := [], laidByText := true, laidKinds := [.data, .data, .data, .data, .sentinel, .sentinel, .data, .data, .data, .data, .data, .pinned], laidTests := true, laidLooks := .later }
def JetValuesUptoCardSaid : Prop := Claim7.holds Tryz.pinned (.plain (OpenSpec.upto jetValuesSpec)) jetValuesUptoCard

/-- THE SECOND FORM's CARD OF 'fluxionlaw16.JetRing'. -/
def jetRingUptoCard : Claim7 := { stood := { row := jetRingUptoRow, standIns := [], harness := (true, "12d293304533b96634aac677a7546efc3ec2c21e02291f64237086facc67c418"), looks := true }, kinds := [], alts := [], laidByText := true, laidKinds := [.data, .data, .data, .data, .sentinel, .sentinel, .data, .data, .data, .data, .data, .pinned], laidTests := true, laidLooks := .later }
def JetRingUptoCardSaid : Prop := Claim7.holds Tryz.pinned (.plain (OpenSpec.upto jetRingSpec)) jetRingUptoCard
end Rows
end Go.Proofs.YtcnmkdpnbaidgaaGreatDoor

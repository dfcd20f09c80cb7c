/-
  DERIVED. GIVEN WITH THE SEED: THE CARDS: each row of YtmjlfknkembhnaaDoorRows.lean that lists a variable, with what it lists TIED to the program's text (the seventh form; the later family's looks); each row that meets fmt, with fmt's text TOLD by the authors' own Lean function (tested against real Go, not proved from fmt's source: count such statements apart). THE CARD IS WHAT COUNTS. Prove the row's statement (the work); the ties are given (YtmjlfknkembhnaaDoorTie.lean); close each card by the builder's one call (the guide's Derived/Test/ToyasCard.lean, 'card_holds'). Laid BY PROGRAM, IN A SANDBOX (cutbox-door.mjs). By AI agents, Wed Nov 11 2026. No macro, syntax, notation, axiom, sorry.
-/
import Derived.Test.YtmjlfknkembhnaaDoorRows
import GoSem.ClaimSeven
namespace Go.Proofs.YtmjlfknkembhnaaDoor
namespace Rows

/-- THE TIED CARD OF 'purlieulaw16.ReqsChecks'. -/
def reqsChecksCard : Claim7 := { stood := { row := reqsChecksRow, standIns := [], harness := (true, "9073895fdc21d73e71134d90e51c86fd152cb5ea3e5fd897748b87a758cf2fa3"), looks := false }, kinds := [], alts := [], laidByText := true, laidKinds := [.data, .listed, .data, .pinned], laidTests := true, laidLooks := .later }
def ReqsChecksCardSaid : Prop := Claim7.holds Tryd.pinned (.plain (OpenSpec.ofChange reqsChecksSpec)) reqsChecksCard

/-- THE TIED CARD OF 'purlieulaw16.ReqsTakes'. -/
def reqsTakesCard : Claim7 := { stood := { row := reqsTakesRow, standIns := [], harness := (true, "9073895fdc21d73e71134d90e51c86fd152cb5ea3e5fd897748b87a758cf2fa3"), looks := false }, kinds := [], alts := [], laidByText := true, laidKinds := [.data, .listed, .data, .pinned], laidTests := true, laidLooks := .later }
def ReqsTakesCardSaid : Prop := Claim7.holds Tryd.pinned (.plain (OpenSpec.ofChange reqsTakesSpec)) reqsTakesCard

/-- THE TIED CARD OF 'purlieulaw16.ReqsRest'. -/
def reqsRestCard : Claim7 := { stood := { row := reqsRestRow, standIns := [], harness := (true, "9073895fdc21d73e71134d90e51c86fd152cb5ea3e5fd897748b87a758cf2fa3"), looks := false }, kinds := [], alts := [], laidByText := true, laidKinds := [.data, .listed, .data, .pinned], laidTests := true, laidLooks := .later }
def ReqsRestCardSaid : Prop := Claim7.holds Tryd.pinned (.plain (OpenSpec.ofChange reqsRestSpec)) reqsRestCard

/-- THE TIED CARD OF 'purlieulaw16.ReqsPlain'. -/
def reqsPlainCard : Claim7 := { stood := { row := reqsPlainRow, standIns := [], harness := (true, "9073895fdc21d73e71134d90e51c86fd152cb5ea3e5fd897748b87a758cf2fa3"), looks := false }, kinds := [], alts := [], laidByText := true, laidKinds := [.data, .listed, .data, .pinned], laidTests := true, laidLooks := .later }
def ReqsPlainCardSaid : Prop := Claim7.holds Tryd.pinned (.plain (OpenSpec.ofChange reqsPlainSpec)) reqsPlainCard

/-- THE TIED CARD OF 'purlieulaw16.ReqsGates'. -/
def reqsGatesCard : Claim7 := { stood := { row := reqsGatesRow, standIns := [], harness := (true, "9073895fdc21d73e71134d90e51c86fd152cb5ea3e5fd897748b87a758cf2fa3"), looks := false }, kinds := [], alts := [], laidByText := true, laidKinds := [.data, .listed, .data, .pinned], laidTests := true, laidLooks := .later }
def ReqsGatesCardSaid : Prop := Claim7.holds Tryd.pinned (.plain (OpenSpec.ofChange reqsGatesSpec)) reqsGatesCard

/-- THE SECOND FORM's CARD OF 'purlieulaw16.ReqsChecks'. -/
def reqsChecksUptoCard : Claim7 := { stood := { row := reqsChecksUptoRow, standIns := [], harness := (true, "9073895fdc21d73e71134d90e51c86fd152cb5ea3e5fd897748b87a758cf2fa3"), looks := false }, kinds := [], alts := [], laidByText := true, laidKinds := [.data, .listed, .data, .pinned], laidTests := true, laidLooks := .later }
def ReqsChecksUptoCardSaid : Prop := Claim7.holds Tryd.pinned (.plain (OpenSpec.upto reqsChecksSpec)) reqsChecksUptoCard

/-- THE SECOND FORM's CARD OF 'purlieulaw16.ReqsTakes'. -/
def reqsTakesUptoCard : Claim7 := { stood := { row := reqsTakesUptoRow, standIns := [], harness := (true, "9073895fdc21d73e71134d90e51c86fd152cb5ea3e5fd897748b87a758cf2fa3"), looks := false }, kinds := [], alts := [], laidByText := true, laidKinds := [.data, .listed, .data, .pinned], laidTests := true, laidLooks := .later }
def ReqsTakesUptoCardSaid : Prop := Claim7.holds Tryd.pinned (.plain (OpenSpec.upto reqsTakesSpec)) reqsTakesUptoCard

/-- THE SECOND FORM's CARD OF 'purlieulaw16.ReqsRest'. -/
def reqsRestUptoCard : Claim7 := { stood := { row := reqsRestUptoRow, standIns := [], harness := (true, "9073895fdc21d73e71134d90e51c86fd152cb5ea3e5fd897748b87a758cf2fa3"), looks := false }, kinds := [], alts := [], laidByText := true, laidKinds := [.data, .listed, .data, .pinned], laidTests := true, laidLooks := .later }
def ReqsRestUptoCardSaid : Prop := Claim7.holds Tryd.pinned (.plain (OpenSpec.upto reqsRestSpec)) reqsRestUptoCard

/-- THE SECOND FORM's CARD OF 'purlieulaw16.ReqsPlain'. -/
def reqsPlainUptoCard : Claim7 := { stood := { row := reqsPlainUptoRow, standIns := [], harness := (true, "9073895fdc21d73e71134d90e51c86fd152cb5ea3e5fd897748b87a758cf2fa3"), looks := false }, kinds := [], alts := [], laidByText := true, laidKinds := [.data, .listed, .data, .pinned], laidTests := true, laidLooks := .later }
def ReqsPlainUptoCardSaid : Prop := Claim7.holds Tryd.pinned (.plain (OpenSpec.upto reqsPlainSpec)) reqsPlainUptoCard

/-- THE SECOND FORM's CARD OF 'purlieulaw16.ReqsGates'. -/
def reqsGatesUptoCard : Claim7 := { stood := { row := reqsGatesUptoRow, standIns := [], harness := (true, "9073895fdc21d73e71134d90e51c86fd152cb5ea3e5fd897748b87a758cf2fa3"), looks := false }, kinds := [], alts := [], laidByText := true, laidKinds := [.data, .listed, .data, .pinned], laidTests := true, laidLooks := .later }
def ReqsGatesUptoCardSaid : Prop := Claim7.holds Tryd.pinned (.plain (OpenSpec.upto reqsGatesSpec)) reqsGatesUptoCard
end Rows
end Go.Proofs.YtmjlfknkembhnaaDoor

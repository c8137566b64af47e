/-
  DERIVED. GIVEN WITH THE SEED: THE CARDS: each row of YtndnedjclbigiaaDoorRows.lean that lists a variable, with what it lists TIED to the program's text (the seventh form; the later family's looks); each row that meets fmt, with fmt's text TOLD by the authors' own Lean function (tested against real Go, not proved from fmt's source: count such statements apart). THE CARD IS WHAT COUNTS. Prove the row's statement (the work); the ties are given (YtndnedjclbigiaaDoorTie.lean); close each card by the builder's one call (the guide's Derived/Test/ToyasCard.lean, 'card_holds'). Laid BY PROGRAM, IN A SANDBOX (cutbox-door.mjs). By AI agents, Wed Nov 11 2026. No macro, syntax, notation, axiom, sorry.
-/
import Derived.Test.YtndnedjclbigiaaDoorRows
import GoSem.ClaimSeven
namespace Go.Proofs.YtndnedjclbigiaaDoor
namespace Rows

/-- THE TIED CARD OF 'tesseralaw08.DamageMore'. -/
def damageMoreCard : Claim7 := { stood := { row := damageMoreRow, standIns := [], harness := (true, "cf6d93537f2517bd5efae27dfd2bd712b4d3dc11e30d2793dfbdfe4d9fa149c3"), looks := false }, kinds := [], alts := [], laidByText := true, laidKinds := [.data, .data, .data, .sentinel, .sentinel, .sentinel, .sentinel], laidTests := true, laidLooks := .later }
def DamageMoreCardSaid : Prop := Claim7.holds Tryd.pinned (.plain (OpenSpec.ofChange damageMoreSpec)) damageMoreCard

/-- THE TIED CARD OF 'tesseralaw08.DamageParts'. -/
def damagePartsCard : Claim7 := { stood := { row := damagePartsRow, standIns := [], harness := (true, "cf6d93537f2517bd5efae27dfd2bd712b4d3dc11e30d2793dfbdfe4d9fa149c3"), looks := false }, kinds := [], alts := [], laidByText := true, laidKinds := [.data, .data, .data, .sentinel, .sentinel, .sentinel, .sentinel], laidTests := true, laidLooks := .later }
def DamagePartsCardSaid : Prop := Claim7.holds Tryd.pinned (.plain (OpenSpec.ofChange damagePartsSpec)) damagePartsCard

/-- THE TIED CARD OF 'tesseralaw08.DamageOne'. -/
def damageOneCard : Claim7 := { stood := { row := damageOneRow, standIns := [], harness := (true, "cf6d93537f2517bd5efae27dfd2bd712b4d3dc11e30d2793dfbdfe4d9fa149c3"), looks := false }, kinds := [], alts := [], laidByText := true, laidKinds := [.data, .data, .data, .sentinel, .sentinel, .sentinel, .sentinel], laidTests := true, laidLooks := .later }
def DamageOneCardSaid : Prop := Claim7.holds Tryd.pinned (.plain (OpenSpec.ofChange damageOneSpec)) damageOneCard

/-- THE SECOND FORM's CARD OF 'tesseralaw08.DamageMore'. -/
def damageMoreUptoCard : Claim7 := { stood := { row := damageMoreUptoRow, standIns := [], harness := (true, "cf6d93537f2517bd5efae27dfd2bd712b4d3dc11e30d2793dfbdfe4d9fa149c3"), looks := false }, kinds := [], alts := [], laidByText := true, laidKinds := [.data, .data, .data, .sentinel, .sentinel, .sentinel, .sentinel], laidTests := true, laidLooks := .later }
def DamageMoreUptoCardSaid : Prop := Claim7.holds Tryd.pinned (.plain (OpenSpec.upto damageMoreSpec)) damageMoreUptoCard

/-- THE SECOND FORM's CARD OF 'tesseralaw08.DamageParts'. -/
def damagePartsUptoCard : Claim7 := { stood := { row := damagePartsUptoRow, standIns := [], harness := (true, "cf6d93537f2517bd5efae27dfd2bd712b4d3dc11e30d2793dfbdfe4d9fa149c3"), looks := false }, kinds := [], alts := [], laidByText := true, laidKinds := [.data, .data, .data, .sentinel, .sentinel, .sentinel, .sentinel], laidTests := true, laidLooks := .later }
def DamagePartsUptoCardSaid : Prop := Claim7.holds Tryd.pinned (.plain (OpenSpec.upto damagePartsSpec)) damagePartsUptoCard

/-- THE SECOND FORM's CARD OF 'tesseralaw08.DamageOne'. -/
def damageOneUptoCard : Claim7 := { stood := { row := damageOneUptoRow, standIns := [], harness := (true, "cf6d93537f2517bd5efae27dfd2bd712b4d3dc11e30d2793dfbdfe4d9fa149c3"), looks := false }, kinds := [], alts := [], laidByText := true, laidKinds := [.data, .data, .data, .sentinel, .sentinel, .sentinel, .sentinel], laidTests := true, laidLooks := .later }
def DamageOneUptoCardSaid : Prop := Claim7.holds Tryd.pinned (.plain (OpenSpec.upto damageOneSpec)) damageOneUptoCard
end Rows
end Go.Proofs.YtndnedjclbigiaaDoor

/-
  DERIVED. GIVEN WITH THE SEED: THE CARDS: each row of YtjomdboiibakiabGreatDoorRows.lean that lists a variable, with what it lists TIED to the program's text (the seventh form; the later family's looks); each row that meets fmt, with fmt's text TOLD by the authors' own Lean function (tested against real Go, not proved from fmt's source: count such statements apart). THE CARD IS WHAT COUNTS. Prove the row's statement (the work); the ties are given (YtjomdboiibakiabGreatDoorTie.lean); close each card by the builder's one call (the guide's Derived/Test/ToyasCard.lean, 'card_holds'). Laid BY PROGRAM, IN A SANDBOX (cutbox-door.mjs). By AI agents, Wed Nov 11 2026. No macro, syntax, notation, axiom, sorry.
-/
import Derived.Test.YtjomdboiibakiabGreatDoorRows
import GoSem.ClaimSeven
namespace Go.Proofs.YtjomdboiibakiabGreatDoor
namespace Rows

/-- THE TIED CARD OF 'shardloglaw.Values'. -/
def valuesCard : Claim7 := { stood := { row := valuesRow, standIns := [], harness := (true, "c25b69b8279477dd87ea33e111bf1d6a751b510cf9542e7f10bffb3e355354c8"), looks := true }, kinds := [], alts := [], goes := true, laidByText := true, laidKinds := [.handle, .sentinel, .sentinel, .sentinel, .sentinel, .sentinel, .sentinel, .sentinel, .sentinel, .sentinel], laidTests := true, laidLooks := .later }
def ValuesCardSaid : Prop := Claim7.holds Tryz.pinned (.plain (OpenSpec.ofChange valuesSpec)) valuesCard

/-- THE TIED CARD OF 'shardloglaw.Logs'. -/
def logsCard : Claim7 := { stood := { row := logsRow, standIns := [], harness := (true, "c25b69b8279477dd87ea33e111bf1d6a751b510cf9542e7f10bffb3e355354c8"), looks := true }, kinds := [], alts := [], goes := true, laidByText := true, laidKinds := [.handle, .sentinel, .sentinel, .sentinel, .sentinel, .sentinel, .sentinel, .sentinel, .sentinel, .sentinel], laidTests := true, laidLooks := .later }
def LogsCardSaid : Prop := Claim7.holds Tryz.pinned (.plain (OpenSpec.ofChange logsSpec)) logsCard

/-- THE TIED CARD OF 'shardloglaw.Serial'. -/
def serialCard : Claim7 := { stood := { row := serialRow, standIns := [], harness := (true, "c25b69b8279477dd87ea33e111bf1d6a751b510cf9542e7f10bffb3e355354c8"), looks := true }, kinds := [], alts := [], goes := true, laidByText := true, laidKinds := [.handle, .sentinel, .sentinel, .sentinel, .sentinel, .sentinel, .sentinel, .sentinel, .sentinel, .sentinel], laidTests := true, laidLooks := .later }
def SerialCardSaid : Prop := Claim7.holds Tryz.pinned (.plain (OpenSpec.ofChange serialSpec)) serialCard
end Rows
end Go.Proofs.YtjomdboiibakiabGreatDoor

/-
  DERIVED. GIVEN WITH THE SEED: THE CARDS: each row of YtjomdboiibakiaaGreatDoorRows.lean that lists a variable, with what it lists TIED to the program's text (the seventh form; the later family's looks); each row that meets fmt, with fmt's text TOLD by the authors' own Lean function (tested against real Go, not proved from fmt's source: count such statements apart). THE CARD IS WHAT COUNTS. Prove the row's statement (the work); the ties are given (YtjomdboiibakiaaGreatDoorTie.lean); close each card by the builder's one call (the guide's Derived/Test/ToyasCard.lean, 'card_holds'). Laid BY PROGRAM, IN A SANDBOX (cutbox-door.mjs). By AI agents, Wed Nov 11 2026. No macro, syntax, notation, axiom, sorry.
-/
import Derived.Test.YtjomdboiibakiaaGreatDoorRows
import GoSem.ClaimSeven
namespace Go.Proofs.YtjomdboiibakiaaGreatDoor
namespace Rows

/-- THE TIED CARD OF 'shardloglaw.Right'. -/
def rightCard : Claim7 := { stood := { row := rightRow, standIns := [], harness := (true, "4d5a9d765b5a1b76c7c4a7de9161f54f18bc8c5547664cc40dfa081422e05076"), looks := true }, kinds := [], alts := [], goes := true, laidByText := true, laidKinds := [.handle, .sentinel, .sentinel, .sentinel, .sentinel, .sentinel, .sentinel, .sentinel, .sentinel, .sentinel], laidTests := true, laidLooks := .later }
def RightCardSaid : Prop := Claim7.holds Tryz.pinned (.plain (OpenSpec.ofChange rightSpec)) rightCard

/-- THE TIED CARD OF 'shardloglaw.Client'. -/
def clientCard : Claim7 := { stood := { row := clientRow, standIns := [], harness := (true, "4d5a9d765b5a1b76c7c4a7de9161f54f18bc8c5547664cc40dfa081422e05076"), looks := true }, kinds := [], alts := [], goes := true, laidByText := true, laidKinds := [.handle, .sentinel, .sentinel, .sentinel, .sentinel, .sentinel, .sentinel, .sentinel, .sentinel, .sentinel], laidTests := true, laidLooks := .later }
def ClientCardSaid : Prop := Claim7.holds Tryz.pinned (.plain (OpenSpec.ofChange clientSpec)) clientCard

/-- THE TIED CARD OF 'shardloglaw.Ends'. -/
def endsCard : Claim7 := { stood := { row := endsRow, standIns := [], harness := (true, "4d5a9d765b5a1b76c7c4a7de9161f54f18bc8c5547664cc40dfa081422e05076"), looks := true }, kinds := [], alts := [], goes := true, laidByText := true, laidKinds := [.handle, .sentinel, .sentinel, .sentinel, .sentinel, .sentinel, .sentinel, .sentinel, .sentinel, .sentinel], laidTests := true, laidLooks := .later }
def EndsCardSaid : Prop := Claim7.holds Tryz.pinned (.plain (OpenSpec.ofChange endsSpec)) endsCard

/-- THE TIED CARD OF 'shardloglaw.All'. -/
def allCard : Claim7 := { stood := { row := allRow, standIns := [], harness := (true, "4d5a9d765b5a1b76c7c4a7de9161f54f18bc8c5547664cc40dfa081422e05076"), looks := true }, kinds := [], alts := [], goes := true, laidByText := true, laidKinds := [.handle, .sentinel, .sentinel, .sentinel, .sentinel, .sentinel, .sentinel, .sentinel, .sentinel, .sentinel], laidTests := true, laidLooks := .later }
def AllCardSaid : Prop := Claim7.holds Tryz.pinned (.plain (OpenSpec.ofChange allSpec)) allCard

/-- THE TIED CARD OF 'shardloglaw.Calm'. -/
def calmCard : Claim7 := { stood := { row := calmRow, standIns := [], harness := (true, "4d5a9d765b5a1b76c7c4a7de9161f54f18bc8c5547664cc40dfa081422e05076"), looks := true }, kinds := [], alts := [], goes := true, laidByText := true, laidKinds := [.handle, .sentinel, .sentinel, .sentinel, .sentinel, .sentinel, .sentinel, .sentinel, .sentinel, .sentinel], laidTests := true, laidLooks := .later }
def CalmCardSaid : Prop := Claim7.holds Tryz.pinned (.plain (OpenSpec.ofChange calmSpec)) calmCard

/-- THE TIED CARD OF 'shardloglaw.Submits'. -/
def submitsCard : Claim7 := { stood := { row := submitsRow, standIns := [], harness := (true, "4d5a9d765b5a1b76c7c4a7de9161f54f18bc8c5547664cc40dfa081422e05076"), looks := true }, kinds := [], alts := [], goes := true, laidByText := true, laidKinds := [.handle, .sentinel, .sentinel, .sentinel, .sentinel, .sentinel, .sentinel, .sentinel, .sentinel, .sentinel], laidTests := true, laidLooks := .later }
def SubmitsCardSaid : Prop := Claim7.holds Tryz.pinned (.plain (OpenSpec.ofChange submitsSpec)) submitsCard

/-- THE TIED CARD OF 'shardloglaw.Delivers'. -/
def deliversCard : Claim7 := { stood := { row := deliversRow, standIns := [], harness := (true, "4d5a9d765b5a1b76c7c4a7de9161f54f18bc8c5547664cc40dfa081422e05076"), looks := true }, kinds := [], alts := [], goes := true, laidByText := true, laidKinds := [.handle, .sentinel, .sentinel, .sentinel, .sentinel, .sentinel, .sentinel, .sentinel, .sentinel, .sentinel], laidTests := true, laidLooks := .later }
def DeliversCardSaid : Prop := Claim7.holds Tryz.pinned (.plain (OpenSpec.ofChange deliversSpec)) deliversCard

/-- THE TIED CARD OF 'shardloglaw.Times'. -/
def timesCard : Claim7 := { stood := { row := timesRow, standIns := [], harness := (true, "4d5a9d765b5a1b76c7c4a7de9161f54f18bc8c5547664cc40dfa081422e05076"), looks := true }, kinds := [], alts := [], goes := true, laidByText := true, laidKinds := [.handle, .sentinel, .sentinel, .sentinel, .sentinel, .sentinel, .sentinel, .sentinel, .sentinel, .sentinel], laidTests := true, laidLooks := .later }
def TimesCardSaid : Prop := Claim7.holds Tryz.pinned (.plain (OpenSpec.ofChange timesSpec)) timesCard

/-- THE TIED CARD OF 'shardloglaw.Crashes'. -/
def crashesCard : Claim7 := { stood := { row := crashesRow, standIns := [], harness := (true, "4d5a9d765b5a1b76c7c4a7de9161f54f18bc8c5547664cc40dfa081422e05076"), looks := true }, kinds := [], alts := [], goes := true, laidByText := true, laidKinds := [.handle, .sentinel, .sentinel, .sentinel, .sentinel, .sentinel, .sentinel, .sentinel, .sentinel, .sentinel], laidTests := true, laidLooks := .later }
def CrashesCardSaid : Prop := Claim7.holds Tryz.pinned (.plain (OpenSpec.ofChange crashesSpec)) crashesCard

/-- THE TIED CARD OF 'shardloglaw.Bags'. -/
def bagsCard : Claim7 := { stood := { row := bagsRow, standIns := [], harness := (true, "4d5a9d765b5a1b76c7c4a7de9161f54f18bc8c5547664cc40dfa081422e05076"), looks := true }, kinds := [], alts := [], goes := true, laidByText := true, laidKinds := [.handle, .sentinel, .sentinel, .sentinel, .sentinel, .sentinel, .sentinel, .sentinel, .sentinel, .sentinel], laidTests := true, laidLooks := .later }
def BagsCardSaid : Prop := Claim7.holds Tryz.pinned (.plain (OpenSpec.ofChange bagsSpec)) bagsCard

/-- THE TIED CARD OF 'shardloglaw.Results'. -/
def resultsCard : Claim7 := { stood := { row := resultsRow, standIns := [], harness := (true, "4d5a9d765b5a1b76c7c4a7de9161f54f18bc8c5547664cc40dfa081422e05076"), looks := true }, kinds := [], alts := [], goes := true, laidByText := true, laidKinds := [.handle, .sentinel, .sentinel, .sentinel, .sentinel, .sentinel, .sentinel, .sentinel, .sentinel, .sentinel], laidTests := true, laidLooks := .later }
def ResultsCardSaid : Prop := Claim7.holds Tryz.pinned (.plain (OpenSpec.ofChange resultsSpec)) resultsCard
end Rows
end Go.Proofs.YtjomdboiibakiaaGreatDoor

/-
  DERIVED. GIVEN WITH THE SEED: THE CARDS: each row of YtachmoamlalimaaDoorRows.lean that lists a variable, with what it lists TIED to the program's text (the seventh form; the later family's looks); each row that meets fmt, with fmt's text TOLD by the authors' own Lean function (tested against real Go, not proved from fmt's source: count such statements apart). THE CARD IS WHAT COUNTS. Prove the row's statement (the work); the ties are given (YtachmoamlalimaaDoorTie.lean); close each card by the builder's one call (the guide's Derived/Test/ToyasCard.lean, 'card_holds'). Laid BY PROGRAM, IN A SANDBOX (cutbox-door.mjs). By AI agents, Wed Nov 11 2026. No macro, syntax, notation, axiom, sorry.
-/
import Derived.Test.YtachmoamlalimaaDoorRows
import GoSem.ClaimSeven
namespace Go.Proofs.YtachmoamlalimaaDoor
namespace Rows

/-- THE TIED CARD OF 'atlaslaw05.DescSizes'. -/
def descSizesCard : Claim7 := { stood := { row := descSizesRow, standIns := [], harness := (true, "81d1e0da93be1f6c3346bb5ee32360dd495f9b336be05090c411d500f07f9a74"), looks := false }, kinds := [], alts := [], laidByText := true, laidKinds := [.data], laidTests := true, laidLooks := .later }
def DescSizesCardSaid : Prop := Claim7.holds Tryd.pinned (.plain (OpenSpec.ofChange descSizesSpec)) descSizesCard

/-- THE TIED CARD OF 'atlaslaw05.DescEntry'. -/
def descEntryCard : Claim7 := { stood := { row := descEntryRow, standIns := [], harness := (true, "81d1e0da93be1f6c3346bb5ee32360dd495f9b336be05090c411d500f07f9a74"), looks := false }, kinds := [], alts := [], laidByText := true, laidKinds := [.data, .data], laidTests := true, laidLooks := .later }
def DescEntryCardSaid : Prop := Claim7.holds Tryd.pinned (.plain (OpenSpec.ofChange descEntrySpec)) descEntryCard

/-- THE TIED CARD OF 'atlaslaw05.DescTrans'. -/
def descTransCard : Claim7 := { stood := { row := descTransRow, standIns := [], harness := (true, "81d1e0da93be1f6c3346bb5ee32360dd495f9b336be05090c411d500f07f9a74"), looks := false }, kinds := [], alts := [], laidByText := true, laidKinds := [.data, .data], laidTests := true, laidLooks := .later }
def DescTransCardSaid : Prop := Claim7.holds Tryd.pinned (.plain (OpenSpec.ofChange descTransSpec)) descTransCard

/-- THE TIED CARD OF 'atlaslaw05.DescWrites'. -/
def descWritesCard : Claim7 := { stood := { row := descWritesRow, standIns := [], harness := (true, "81d1e0da93be1f6c3346bb5ee32360dd495f9b336be05090c411d500f07f9a74"), looks := false }, kinds := [], alts := [], laidByText := true, laidKinds := [.data], laidTests := true, laidLooks := .later }
def DescWritesCardSaid : Prop := Claim7.holds Tryd.pinned (.plain (OpenSpec.ofChange descWritesSpec)) descWritesCard

/-- THE TIED CARD OF 'atlaslaw05.DescFlip'. -/
def descFlipCard : Claim7 := { stood := { row := descFlipRow, standIns := [], harness := (true, "81d1e0da93be1f6c3346bb5ee32360dd495f9b336be05090c411d500f07f9a74"), looks := false }, kinds := [], alts := [], laidByText := true, laidKinds := [.data], laidTests := true, laidLooks := .later }
def DescFlipCardSaid : Prop := Claim7.holds Tryd.pinned (.plain (OpenSpec.ofChange descFlipSpec)) descFlipCard

/-- THE TIED CARD OF 'atlaslaw05.DescBack'. -/
def descBackCard : Claim7 := { stood := { row := descBackRow, standIns := [], harness := (true, "81d1e0da93be1f6c3346bb5ee32360dd495f9b336be05090c411d500f07f9a74"), looks := false }, kinds := [], alts := [], laidByText := true, laidKinds := [.data], laidTests := true, laidLooks := .later }
def DescBackCardSaid : Prop := Claim7.holds Tryd.pinned (.plain (OpenSpec.ofChange descBackSpec)) descBackCard

/-- THE TIED CARD OF 'atlaslaw05.DescSaid'. -/
def descSaidCard : Claim7 := { stood := { row := descSaidRow, standIns := [], harness := (true, "81d1e0da93be1f6c3346bb5ee32360dd495f9b336be05090c411d500f07f9a74"), looks := false }, kinds := [], alts := [], laidByText := true, laidKinds := [.data], laidTests := true, laidLooks := .later }
def DescSaidCardSaid : Prop := Claim7.holds Tryd.pinned (.plain (OpenSpec.ofChange descSaidSpec)) descSaidCard

/-- THE TIED CARD OF 'atlaslaw05.DescBlock'. -/
def descBlockCard : Claim7 := { stood := { row := descBlockRow, standIns := [], harness := (true, "81d1e0da93be1f6c3346bb5ee32360dd495f9b336be05090c411d500f07f9a74"), looks := false }, kinds := [], alts := [], laidByText := true, laidKinds := [.data, .data], laidTests := true, laidLooks := .later }
def DescBlockCardSaid : Prop := Claim7.holds Tryd.pinned (.plain (OpenSpec.ofChange descBlockSpec)) descBlockCard

/-- THE SECOND FORM's CARD OF 'atlaslaw05.DescSizes'. -/
def descSizesUptoCard : Claim7 := { stood := { row := descSizesUptoRow, standIns := [], harness := (true, "81d1e0da93be1f6c3346bb5ee32360dd495f9b336be05090c411d500f07f9a74"), looks := false }, kinds := [], alts := [], laidByText := true, laidKinds := [.data], laidTests := true, laidLooks := .later }
def DescSizesUptoCardSaid : Prop := Claim7.holds Tryd.pinned (.plain (OpenSpec.upto descSizesSpec)) descSizesUptoCard

/-- THE SECOND FORM's CARD OF 'atlaslaw05.DescEntry'. -/
def descEntryUptoCard : Claim7 := { stood := { row := descEntryUptoRow, standIns := [], harness := (true, "81d1e0da93be1f6c3346bb5ee32360dd495f9b336be05090c411d500f07f9a74"), looks := false }, kinds := [], alts := [], laidByText := true, laidKinds := [.data, .data], laidTests := true, laidLooks := .later }
def DescEntryUptoCardSaid : Prop := Claim7.holds Tryd.pinned (.plain (OpenSpec.upto descEntrySpec)) descEntryUptoCard

/-- THE SECOND FORM's CARD OF 'atlaslaw05.DescTrans'. -/
def descTransUptoCard : Claim7 := { stood := { row := descTransUptoRow, standIns := [], harness := (true, "81d1e0da93be1f6c3346bb5ee32360dd495f9b336be05090c411d500f07f9a74"), looks := false }, kinds := [], alts := [], laidByText := true, laidKinds := [.data, .data], laidTests := true, laidLooks := .later }
def DescTransUptoCardSaid : Prop := Claim7.holds Tryd.pinned (.plain (OpenSpec.upto descTransSpec)) descTransUptoCard

/-- THE SECOND FORM's CARD OF 'atlaslaw05.DescWrites'. -/
def descWritesUptoCard : Claim7 := { stood := { row := descWritesUptoRow, standIns := [], harness := (true, "81d1e0da93be1f6c3346bb5ee32360dd495f9b336be05090c411d500f07f9a74"), looks := false }, kinds := [], alts := [], laidByText := true, laidKinds := [.data], laidTests := true, laidLooks := .later }
def DescWritesUptoCardSaid : Prop := Claim7.holds Tryd.pinned (.plain (OpenSpec.upto descWritesSpec)) descWritesUptoCard

/-- THE SECOND FORM's CARD OF 'atlaslaw05.DescFlip'. -/
def descFlipUptoCard : Claim7 := { stood := { row := descFlipUptoRow, standIns := [], harness := (true, "81d1e0da93be1f6c3346bb5ee32360dd495f9b336be05090c411d500f07f9a74"), looks := false }, kinds := [], alts := [], laidByText := true, laidKinds := [.data], laidTests := true, laidLooks := .later }
def DescFlipUptoCardSaid : Prop := Claim7.holds Tryd.pinned (.plain (OpenSpec.upto descFlipSpec)) descFlipUptoCard

/-- THE SECOND FORM's CARD OF 'atlaslaw05.DescBack'. -/
def descBackUptoCard : Claim7 := { stood := { row := descBackUptoRow, standIns := [], harness := (true, "81d1e0da93be1f6c3346bb5ee32360dd495f9b336be05090c411d500f07f9a74"), looks := false }, kinds := [], alts := [], laidByText := true, laidKinds := [.data], laidTests := true, laidLooks := .later }
def DescBackUptoCardSaid : Prop := Claim7.holds Tryd.pinned (.plain (OpenSpec.upto descBackSpec)) descBackUptoCard

/-- THE SECOND FORM's CARD OF 'atlaslaw05.DescSaid'. -/
def descSaidUptoCard : Claim7 := { stood := { row := descSaidUptoRow, standIns := [], harness := (true, "81d1e0da93be1f6c3346bb5ee32360dd495f9b336be05090c411d500f07f9a74"), looks := false }, kinds := [], alts := [], laidByText := true, laidKinds := [.data], laidTests := true, laidLooks := .later }
def DescSaidUptoCardSaid : Prop := Claim7.holds Tryd.pinned (.plain (OpenSpec.upto descSaidSpec)) descSaidUptoCard

/-- THE SECOND FORM's CARD OF 'atlaslaw05.DescBlock'. -/
def descBlockUptoCard : Claim7 := { stood := { row := descBlockUptoRow, standIns := [], harness := (true, "81d1e0da93be1f6c3346bb5ee32360dd495f9b336be05090c411d500f07f9a74"), looks := false }, kinds := [], alts := [], laidByText := true, laidKinds := [.data, .data], laidTests := true, laidLooks := .later }
def DescBlockUptoCardSaid : Prop := Claim7.holds Tryd.pinned (.plain (OpenSpec.upto descBlockSpec)) descBlockUptoCard
end Rows
end Go.Proofs.YtachmoamlalimaaDoor

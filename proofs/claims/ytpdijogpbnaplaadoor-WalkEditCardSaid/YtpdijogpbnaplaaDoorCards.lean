/-
  DERIVED. GIVEN WITH THE SEED: THE CARDS: each row of YtpdijogpbnaplaaDoorRows.lean that lists a variable, with what it lists TIED to the program's text (the seventh form; the later family's looks); each row that meets fmt, with fmt's text TOLD by the authors' own Lean function (tested against real Go, not proved from fmt's source: count such statements apart). THE CARD IS WHAT COUNTS. Prove the row's statement (the work); the ties are given (YtpdijogpbnaplaaDoorTie.lean); close each card by the builder's one call (the guide's Derived/Test/ToyasCard.lean, 'card_holds'). Laid BY PROGRAM, IN A SANDBOX (cutbox-door.mjs). By AI agents, Wed Nov 11 2026. No macro, syntax, notation, axiom, sorry.
-/
import Derived.Test.YtpdijogpbnaplaaDoorRows
import GoSem.ClaimSeven
namespace Go.Proofs.YtpdijogpbnaplaaDoor
namespace Rows

/-- THE TIED CARD OF 'atlaslaw09.WalkFinds'. -/
def walkFindsCard : Claim7 := { stood := { row := walkFindsRow, standIns := [], harness := (true, "27e54810958e54f1f2357575faaf8b8752fef5ab3b70b0458ed35634ab7a82a5"), looks := false }, kinds := [], alts := [], laidByText := true, laidKinds := [.data, .data], laidTests := true, laidLooks := .later }
def WalkFindsCardSaid : Prop := Claim7.holds Tryd.pinned (.plain (OpenSpec.ofChange walkFindsSpec)) walkFindsCard

/-- THE TIED CARD OF 'atlaslaw09.WalkReads'. -/
def walkReadsCard : Claim7 := { stood := { row := walkReadsRow, standIns := [], harness := (true, "27e54810958e54f1f2357575faaf8b8752fef5ab3b70b0458ed35634ab7a82a5"), looks := false }, kinds := [], alts := [], laidByText := true, laidKinds := [.data, .data], laidTests := true, laidLooks := .later }
def WalkReadsCardSaid : Prop := Claim7.holds Tryd.pinned (.plain (OpenSpec.ofChange walkReadsSpec)) walkReadsCard

/-- THE TIED CARD OF 'atlaslaw09.WalkEdit'. -/
def walkEditCard : Claim7 := { stood := { row := walkEditRow, standIns := [], harness := (true, "27e54810958e54f1f2357575faaf8b8752fef5ab3b70b0458ed35634ab7a82a5"), looks := false }, kinds := [], alts := [], laidByText := true, laidKinds := [.data, .data], laidTests := true, laidLooks := .later }
def WalkEditCardSaid : Prop := Claim7.holds Tryd.pinned (.plain (OpenSpec.ofChange walkEditSpec)) walkEditCard

/-- THE TIED CARD OF 'atlaslaw09.WalkSame'. -/
def walkSameCard : Claim7 := { stood := { row := walkSameRow, standIns := [], harness := (true, "27e54810958e54f1f2357575faaf8b8752fef5ab3b70b0458ed35634ab7a82a5"), looks := false }, kinds := [], alts := [], laidByText := true, laidKinds := [.data, .data], laidTests := true, laidLooks := .later }
def WalkSameCardSaid : Prop := Claim7.holds Tryd.pinned (.plain (OpenSpec.ofChange walkSameSpec)) walkSameCard

/-- THE TIED CARD OF 'atlaslaw09.WalkGo'. -/
def walkGoCard : Claim7 := { stood := { row := walkGoRow, standIns := [], harness := (true, "27e54810958e54f1f2357575faaf8b8752fef5ab3b70b0458ed35634ab7a82a5"), looks := false }, kinds := [], alts := [], laidByText := true, laidKinds := [.data, .data, .data, .data], laidTests := true, laidLooks := .later }
def WalkGoCardSaid : Prop := Claim7.holds Tryd.pinned (.plain (OpenSpec.ofChange walkGoSpec)) walkGoCard

/-- THE TIED CARD OF 'atlaslaw09.WalkPages'. -/
def walkPagesCard : Claim7 := { stood := { row := walkPagesRow, standIns := [], harness := (true, "27e54810958e54f1f2357575faaf8b8752fef5ab3b70b0458ed35634ab7a82a5"), looks := false }, kinds := [], alts := [], laidByText := true, laidKinds := [.data, .data, .data, .data], laidTests := true, laidLooks := .later }
def WalkPagesCardSaid : Prop := Claim7.holds Tryd.pinned (.plain (OpenSpec.ofChange walkPagesSpec)) walkPagesCard

/-- THE TIED CARD OF 'atlaslaw09.WalkBlocks'. -/
def walkBlocksCard : Claim7 := { stood := { row := walkBlocksRow, standIns := [], harness := (true, "27e54810958e54f1f2357575faaf8b8752fef5ab3b70b0458ed35634ab7a82a5"), looks := false }, kinds := [], alts := [], laidByText := true, laidKinds := [.data, .data], laidTests := true, laidLooks := .later }
def WalkBlocksCardSaid : Prop := Claim7.holds Tryd.pinned (.plain (OpenSpec.ofChange walkBlocksSpec)) walkBlocksCard

/-- THE TIED CARD OF 'atlaslaw09.WalkListed'. -/
def walkListedCard : Claim7 := { stood := { row := walkListedRow, standIns := [], harness := (true, "27e54810958e54f1f2357575faaf8b8752fef5ab3b70b0458ed35634ab7a82a5"), looks := false }, kinds := [], alts := [], laidByText := true, laidKinds := [.data, .data], laidTests := true, laidLooks := .later }
def WalkListedCardSaid : Prop := Claim7.holds Tryd.pinned (.plain (OpenSpec.ofChange walkListedSpec)) walkListedCard

/-- THE TIED CARD OF 'atlaslaw09.WalkNone'. -/
def walkNoneCard : Claim7 := { stood := { row := walkNoneRow, standIns := [], harness := (true, "27e54810958e54f1f2357575faaf8b8752fef5ab3b70b0458ed35634ab7a82a5"), looks := false }, kinds := [], alts := [], laidByText := true, laidKinds := [.data, .data, .data, .data], laidTests := true, laidLooks := .later }
def WalkNoneCardSaid : Prop := Claim7.holds Tryd.pinned (.plain (OpenSpec.ofChange walkNoneSpec)) walkNoneCard

/-- THE SECOND FORM's CARD OF 'atlaslaw09.WalkFinds'. -/
def walkFindsUptoCard : Claim7 := { stood := { row := walkFindsUptoRow, standIns := [], harness := (true, "27e54810958e54f1f2357575faaf8b8752fef5ab3b70b0458ed35634ab7a82a5"), looks := false }, kinds := [], alts := [], laidByText := true, laidKinds := [.data, .data], laidTests := true, laidLooks := .later }
def WalkFindsUptoCardSaid : Prop := Claim7.holds Tryd.pinned (.plain (OpenSpec.upto walkFindsSpec)) walkFindsUptoCard

/-- THE SECOND FORM's CARD OF 'atlaslaw09.WalkReads'. -/
def walkReadsUptoCard : Claim7 := { stood := { row := walkReadsUptoRow, standIns := [], harness := (true, "27e54810958e54f1f2357575faaf8b8752fef5ab3b70b0458ed35634ab7a82a5"), looks := false }, kinds := [], alts := [], laidByText := true, laidKinds := [.data, .data], laidTests := true, laidLooks := .later }
def WalkReadsUptoCardSaid : Prop := Claim7.holds Tryd.pinned (.plain (OpenSpec.upto walkReadsSpec)) walkReadsUptoCard

/-- THE SECOND FORM's CARD OF 'atlaslaw09.WalkEdit'. -/
def walkEditUptoCard : Claim7 := { stood := { row := walkEditUptoRow, standIns := [], harness := (true, "27e54810958e54f1f2357575faaf8b8752fef5ab3b70b0458ed35634ab7a82a5"), looks := false }, kinds := [], alts := [], laidByText := true, laidKinds := [.data, .data], laidTests := true, laidLooks := .later }
def WalkEditUptoCardSaid : Prop := Claim7.holds Tryd.pinned (.plain (OpenSpec.upto walkEditSpec)) walkEditUptoCard

/-- THE SECOND FORM's CARD OF 'atlaslaw09.WalkSame'. -/
def walkSameUptoCard : Claim7 := { stood := { row := walkSameUptoRow, standIns := [], harness := (true, "27e54810958e54f1f2357575faaf8b8752fef5ab3b70b0458ed35634ab7a82a5"), looks := false }, kinds := [], alts := [], laidByText := true, laidKinds := [.data, .data], laidTests := true, laidLooks := .later }
def WalkSameUptoCardSaid : Prop := Claim7.holds Tryd.pinned (.plain (OpenSpec.upto walkSameSpec)) walkSameUptoCard

/-- THE SECOND FORM's CARD OF 'atlaslaw09.WalkGo'. -/
def walkGoUptoCard : Claim7 := { stood := { row := walkGoUptoRow, standIns := [], harness := (true, "27e54810958e54f1f2357575faaf8b8752fef5ab3b70b0458ed35634ab7a82a5"), looks := false }, kinds := [], alts := [], laidByText := true, laidKinds := [.data, .data, .data, .data], laidTests := true, laidLooks := .later }
def WalkGoUptoCardSaid : Prop := Claim7.holds Tryd.pinned (.plain (OpenSpec.upto walkGoSpec)) walkGoUptoCard

/-- THE SECOND FORM's CARD OF 'atlaslaw09.WalkPages'. -/
def walkPagesUptoCard : Claim7 := { stood := { row := walkPagesUptoRow, standIns := [], harness := (true, "27e54810958e54f1f2357575faaf8b8752fef5ab3b70b0458ed35634ab7a82a5"), looks := false }, kinds := [], alts := [], laidByText := true, laidKinds := [.data, .data, .data, .data], laidTests := true, laidLooks := .later }
def WalkPagesUptoCardSaid : Prop := Claim7.holds Tryd.pinned (.plain (OpenSpec.upto walkPagesSpec)) walkPagesUptoCard

/-- THE SECOND FORM's CARD OF 'atlaslaw09.WalkBlocks'. -/
def walkBlocksUptoCard : Claim7 := { stood := { row := walkBlocksUptoRow, standIns := [], harness := (true, "27e54810958e54f1f2357575faaf8b8752fef5ab3b70b0458ed35634ab7a82a5"), looks := false }, kinds := [], alts := [], laidByText := true, laidKinds := [.data, .data], laidTests := true, laidLooks := .later }
def WalkBlocksUptoCardSaid : Prop := Claim7.holds Tryd.pinned (.plain (OpenSpec.upto walkBlocksSpec)) walkBlocksUptoCard

/-- THE SECOND FORM's CARD OF 'atlaslaw09.WalkListed'. -/
def walkListedUptoCard : Claim7 := { stood := { row := walkListedUptoRow, standIns := [], harness := (true, "27e54810958e54f1f2357575faaf8b8752fef5ab3b70b0458ed35634ab7a82a5"), looks := false }, kinds := [], alts := [], laidByText := true, laidKinds := [.data, .data], laidTests := true, laidLooks := .later }
def WalkListedUptoCardSaid : Prop := Claim7.holds Tryd.pinned (.plain (OpenSpec.upto walkListedSpec)) walkListedUptoCard

/-- THE SECOND FORM's CARD OF 'atlaslaw09.WalkNone'. -/
def walkNoneUptoCard : Claim7 := { stood := { row := walkNoneUptoRow, standIns := [], harness := (true, "27e54810958e54f1f2357575faaf8b8752fef5ab3b70b0458ed35634ab7a82a5"), looks := false }, kinds := [], alts := [], laidByText := true, laidKinds := [.data, .data, .data, .data], laidTests := true, laidLooks := .later }
def WalkNoneUptoCardSaid : Prop := Claim7.holds Tryd.pinned (.plain (OpenSpec.upto walkNoneSpec)) walkNoneUptoCard
end Rows
end Go.Proofs.YtpdijogpbnaplaaDoor

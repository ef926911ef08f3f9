/-
  DERIVED. GIVEN WITH THE SEED: THE CARDS: each row of YtgnljbdobbahkaaDoorRows.lean that lists a variable, with what it lists TIED to the program's text (the seventh form; the later family's looks); each row that meets fmt, with fmt's text TOLD by the authors' own Lean function (tested against real Go, not proved from fmt's source: count such statements apart). THE CARD IS WHAT COUNTS. Prove the row's statement (the work); the ties are given (YtgnljbdobbahkaaDoorTie.lean); close each card by the builder's one call (the guide's Derived/Test/ToyasCard.lean, 'card_holds'). Laid BY PROGRAM, IN A SANDBOX (cutbox-door.mjs). By AI agents, Wed Nov 11 2026. No macro, syntax, notation, axiom, sorry.
-/
import Derived.Test.YtgnljbdobbahkaaDoorRows
import GoSem.ClaimSeven
namespace Go.Proofs.YtgnljbdobbahkaaDoor
namespace Rows

/-- THE TIED CARD OF 'garretlaw13.BlobWrites'. -/
def blobWritesCard : Claim7 := { stood := { row := blobWritesRow, standIns := [], harness := (true, "c2a61d7a9782c7fe2099faacd5b18ee4dbdc9e6d70330bf0307aa8c3284f79a0"), looks := false }, kinds := [], alts := [], laidByText := true, laidKinds := [.data], laidTests := true, laidLooks := .later }
def BlobWritesCardSaid : Prop := Claim7.holds Tryd.pinned (.plain (OpenSpec.ofChange blobWritesSpec)) blobWritesCard

/-- THE TIED CARD OF 'garretlaw13.BlobReads'. -/
def blobReadsCard : Claim7 := { stood := { row := blobReadsRow, standIns := [], harness := (true, "c2a61d7a9782c7fe2099faacd5b18ee4dbdc9e6d70330bf0307aa8c3284f79a0"), looks := false }, kinds := [], alts := [], laidByText := true, laidKinds := [.data], laidTests := true, laidLooks := .later }
def BlobReadsCardSaid : Prop := Claim7.holds Tryd.pinned (.plain (OpenSpec.ofChange blobReadsSpec)) blobReadsCard

/-- THE TIED CARD OF 'garretlaw13.BlobBack'. -/
def blobBackCard : Claim7 := { stood := { row := blobBackRow, standIns := [], harness := (true, "c2a61d7a9782c7fe2099faacd5b18ee4dbdc9e6d70330bf0307aa8c3284f79a0"), looks := false }, kinds := [], alts := [], laidByText := true, laidKinds := [.data], laidTests := true, laidLooks := .later }
def BlobBackCardSaid : Prop := Claim7.holds Tryd.pinned (.plain (OpenSpec.ofChange blobBackSpec)) blobBackCard

/-- THE TIED CARD OF 'garretlaw14.PackNames'. -/
def packNamesCard : Claim7 := { stood := { row := packNamesRow, standIns := [], harness := (true, "c2a61d7a9782c7fe2099faacd5b18ee4dbdc9e6d70330bf0307aa8c3284f79a0"), looks := false }, kinds := [], alts := [], laidByText := true, laidKinds := [.data], laidTests := true, laidLooks := .later }
def PackNamesCardSaid : Prop := Claim7.holds Tryd.pinned (.plain (OpenSpec.ofChange packNamesSpec)) packNamesCard

/-- THE TIED CARD OF 'garretlaw14.PackBack'. -/
def packBackCard : Claim7 := { stood := { row := packBackRow, standIns := [], harness := (true, "c2a61d7a9782c7fe2099faacd5b18ee4dbdc9e6d70330bf0307aa8c3284f79a0"), looks := false }, kinds := [], alts := [], laidByText := true, laidKinds := [.data], laidTests := true, laidLooks := .later }
def PackBackCardSaid : Prop := Claim7.holds Tryd.pinned (.plain (OpenSpec.ofChange packBackSpec)) packBackCard

/-- THE TIED CARD OF 'garretlaw16.IndexRebuilds'. -/
def indexRebuildsCard : Claim7 := { stood := { row := indexRebuildsRow, standIns := [], harness := (true, "c2a61d7a9782c7fe2099faacd5b18ee4dbdc9e6d70330bf0307aa8c3284f79a0"), looks := false }, kinds := [], alts := [], laidByText := true, laidKinds := [.data], laidTests := true, laidLooks := .later }
def IndexRebuildsCardSaid : Prop := Claim7.holds Tryd.pinned (.plain (OpenSpec.ofChange indexRebuildsSpec)) indexRebuildsCard

/-- THE SECOND FORM's CARD OF 'garretlaw13.BlobWrites'. -/
def blobWritesUptoCard : Claim7 := { stood := { row := blobWritesUptoRow, standIns := [], harness := (true, "c2a61d7a9782c7fe2099faacd5b18ee4dbdc9e6d70330bf0307aa8c3284f79a0"), looks := false }, kinds := [], alts := [], laidByText := true, laidKinds := [.data], laidTests := true, laidLooks := .later }
def BlobWritesUptoCardSaid : Prop := Claim7.holds Tryd.pinned (.plain (OpenSpec.upto blobWritesSpec)) blobWritesUptoCard

/-- THE SECOND FORM's CARD OF 'garretlaw13.BlobReads'. -/
def blobReadsUptoCard : Claim7 := { stood := { row := blobReadsUptoRow, standIns := [], harness := (true, "c2a61d7a9782c7fe2099faacd5b18ee4dbdc9e6d70330bf0307aa8c3284f79a0"), looks := false }, kinds := [], alts := [], laidByText := true, laidKinds := [.data], laidTests := true, laidLooks := .later }
def BlobReadsUptoCardSaid : Prop := Claim7.holds Tryd.pinned (.plain (OpenSpec.upto blobReadsSpec)) blobReadsUptoCard

/-- THE SECOND FORM's CARD OF 'garretlaw13.BlobBack'. -/
def blobBackUptoCard : Claim7 := { stood := { row := blobBackUptoRow, standIns := [], harness := (true, "c2a61d7a9782c7fe2099faacd5b18ee4dbdc9e6d70330bf0307aa8c3284f79a0"), looks := false }, kinds := [], alts := [], laidByText := true, laidKinds := [.data], laidTests := true, laidLooks := .later }
def BlobBackUptoCardSaid : Prop := Claim7.holds Tryd.pinned (.plain (OpenSpec.upto blobBackSpec)) blobBackUptoCard

/-- THE SECOND FORM's CARD OF 'garretlaw14.PackNames'. -/
def packNamesUptoCard : Claim7 := { stood := { row := packNamesUptoRow, standIns := [], harness := (true, "c2a61d7a9782c7fe2099faacd5b18ee4dbdc9e6d70330bf0307aa8c3284f79a0"), looks := false }, kinds := [], alts := [], laidByText := true, laidKinds := [.data], laidTests := true, laidLooks := .later }
def PackNamesUptoCardSaid : Prop := Claim7.holds Tryd.pinned (.plain (OpenSpec.upto packNamesSpec)) packNamesUptoCard

/-- THE SECOND FORM's CARD OF 'garretlaw14.PackBack'. -/
def packBackUptoCard : Claim7 := { stood := { row := packBackUptoRow, standIns := [], harness := (true, "c2a61d7a9782c7fe2099faacd5b18ee4dbdc9e6d70330bf0307aa8c3284f79a0"), looks := false }, kinds := [], alts := [], laidByText := true, laidKinds := [.data], laidTests := true, laidLooks := .later }
def PackBackUptoCardSaid : Prop := Claim7.holds Tryd.pinned (.plain (OpenSpec.upto packBackSpec)) packBackUptoCard

/-- THE SECOND FORM's CARD OF 'garretlaw16.IndexRebuilds'. -/
def indexRebuildsUptoCard : Claim7 := { stood := { row := indexRebuildsUptoRow, standIns := [], harness := (true, "c2a61d7a9782c7fe2099faacd5b18ee4dbdc9e6d70330bf0307aa8c3284f79a0"), looks := false }, kinds := [], alts := [], laidByText := true, laidKinds := [.data], laidTests := true, laidLooks := .later }
def IndexRebuildsUptoCardSaid : Prop := Claim7.holds Tryd.pinned (.plain (OpenSpec.upto indexRebuildsSpec)) indexRebuildsUptoCard
end Rows
end Go.Proofs.YtgnljbdobbahkaaDoor

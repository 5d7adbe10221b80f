/-
  DERIVED. GIVEN WITH THE SEED: THE CARDS: each row of YtmadknpaljaecaaGreatDoorRows.lean that lists a variable, with what it lists TIED to the program's text (the seventh form; the later family's looks); each row that meets fmt, with fmt's text TOLD by the authors' own Lean function (tested against real Go, not proved from fmt's source: count such statements apart). THE CARD IS WHAT COUNTS. Prove the row's statement (the work); the ties are given (YtmadknpaljaecaaGreatDoorTie.lean); close each card by the builder's one call (the guide's Derived/Test/ToyasCard.lean, 'card_holds'). Laid BY PROGRAM, IN A SANDBOX (cutbox-door.mjs). By AI agents, Wed Nov 11 2026. No macro, syntax, notation, axiom, sorry.
-/
import Derived.Test.YtmadknpaljaecaaGreatDoorRows
import GoSem.ClaimSeven
namespace Go.Proofs.YtmadknpaljaecaaGreatDoor
namespace Rows

/-- THE TIED CARD OF 'chisellaw05.DblParses'. -/
def dblParsesCard : Claim7 := { stood := { row := dblParsesRow, standIns := [], harness := (true, "2d3d0e6783ce3f264f78a9d20cb54d6d563bc1a71f58a8e0017f9b217784264d"), looks := true }, kinds := [], alts := [], laidByText := true, laidKinds := [.data, .data, .widerDeep, .widerDeep, .data, .data, .data, .data, .data, .data, .sentinel, .sentinel, .pinned, .pinned, .pinned, .pinned], laidTests := true, laidLooks := .later }
def DblParsesCardSaid : Prop := Claim7.holds Tryz.pinned (.plain (OpenSpec.ofChange dblParsesSpec)) dblParsesCard

/-- THE TIED CARD OF 'chisellaw05.DblTexts'. -/
def dblTextsCard : Claim7 := { stood := { row := dblTextsRow, standIns := [], harness := (true, "2d3d0e6783ce3f264f78a9d20cb54d6d563bc1a71f58a8e0017f9b217784264d"), looks := true }, kinds := [], alts := [], laidByText := true, laidKinds := [.data, .data, .widerDeep, .widerDeep, .data, .data, .data, .data, .data, .data, .sentinel, .sentinel, .pinned, .pinned, .pinned, .pinned], laidTests := true, laidLooks := .later }
def DblTextsCardSaid : Prop := Claim7.holds Tryz.pinned (.plain (OpenSpec.ofChange dblTextsSpec)) dblTextsCard

/-- THE TIED CARD OF 'chisellaw05.DblOps'. -/
def dblOpsCard : Claim7 := { stood := { row := dblOpsRow, standIns := [], harness := (true, "2d3d0e6783ce3f264f78a9d20cb54d6d563bc1a71f58a8e0017f9b217784264d"), looks := true }, kinds := [], alts := [], laidByText := true, laidKinds := [.data, .data, .widerDeep, .widerDeep, .data, .data, .data, .data, .data, .data, .sentinel, .sentinel, .pinned, .pinned, .pinned, .pinned], laidTests := true, laidLooks := .later }
def DblOpsCardSaid : Prop := Claim7.holds Tryz.pinned (.plain (OpenSpec.ofChange dblOpsSpec)) dblOpsCard

/-- THE TIED CARD OF 'chisellaw05.DblRounds'. -/
def dblRoundsCard : Claim7 := { stood := { row := dblRoundsRow, standIns := [], harness := (true, "2d3d0e6783ce3f264f78a9d20cb54d6d563bc1a71f58a8e0017f9b217784264d"), looks := true }, kinds := [], alts := [], laidByText := true, laidKinds := [.data, .data, .widerDeep, .widerDeep, .data, .data, .data, .data, .data, .data, .sentinel, .sentinel, .pinned, .pinned, .pinned, .pinned], laidTests := true, laidLooks := .later }
def DblRoundsCardSaid : Prop := Claim7.holds Tryz.pinned (.plain (OpenSpec.ofChange dblRoundsSpec)) dblRoundsCard

/-- THE TIED CARD OF 'chisellaw05.DblBack'. -/
def dblBackCard : Claim7 := { stood := { row := dblBackRow, standIns := [], harness := (true, "2d3d0e6783ce3f264f78a9d20cb54d6d563bc1a71f58a8e0017f9b217784264d"), looks := true }, kinds := [], alts := [], laidByText := true, laidKinds := [.data, .data, .widerDeep, .widerDeep, .data, .data, .data, .data, .data, .data, .sentinel, .sentinel, .pinned, .pinned, .pinned, .pinned], laidTests := true, laidLooks := .later }
def DblBackCardSaid : Prop := Claim7.holds Tryz.pinned (.plain (OpenSpec.ofChange dblBackSpec)) dblBackCard

/-- THE TIED CARD OF 'chisellaw05.DblRemains'. -/
def dblRemainsCard : Claim7 := { stood := { row := dblRemainsRow, standIns := [], harness := (true, "2d3d0e6783ce3f264f78a9d20cb54d6d563bc1a71f58a8e0017f9b217784264d"), looks := true }, kinds := [], alts := [], laidByText := true, laidKinds := [.data, .data, .widerDeep, .widerDeep, .data, .data, .data, .data, .data, .data, .sentinel, .sentinel, .pinned, .pinned, .pinned, .pinned], laidTests := true, laidLooks := .later }
def DblRemainsCardSaid : Prop := Claim7.holds Tryz.pinned (.plain (OpenSpec.ofChange dblRemainsSpec)) dblRemainsCard

/-- THE TIED CARD OF 'chisellaw05.DblSigns'. -/
def dblSignsCard : Claim7 := { stood := { row := dblSignsRow, standIns := [], harness := (true, "2d3d0e6783ce3f264f78a9d20cb54d6d563bc1a71f58a8e0017f9b217784264d"), looks := true }, kinds := [], alts := [], laidByText := true, laidKinds := [.data, .data, .widerDeep, .widerDeep, .data, .data, .data, .data, .data, .data, .sentinel, .sentinel, .pinned, .pinned, .pinned, .pinned], laidTests := true, laidLooks := .later }
def DblSignsCardSaid : Prop := Claim7.holds Tryz.pinned (.plain (OpenSpec.ofChange dblSignsSpec)) dblSignsCard

/-- THE TIED CARD OF 'chisellaw05.DblRounded'. -/
def dblRoundedCard : Claim7 := { stood := { row := dblRoundedRow, standIns := [], harness := (true, "2d3d0e6783ce3f264f78a9d20cb54d6d563bc1a71f58a8e0017f9b217784264d"), looks := true }, kinds := [], alts := [], laidByText := true, laidKinds := [.data, .data, .widerDeep, .widerDeep, .data, .data, .data, .data, .data, .data, .sentinel, .sentinel, .pinned, .pinned, .pinned, .pinned], laidTests := true, laidLooks := .later }
def DblRoundedCardSaid : Prop := Claim7.holds Tryz.pinned (.plain (OpenSpec.ofChange dblRoundedSpec)) dblRoundedCard

/-- THE TIED CARD OF 'chisellaw05.DblShort'. -/
def dblShortCard : Claim7 := { stood := { row := dblShortRow, standIns := [], harness := (true, "2d3d0e6783ce3f264f78a9d20cb54d6d563bc1a71f58a8e0017f9b217784264d"), looks := true }, kinds := [], alts := [], laidByText := true, laidKinds := [.data, .data, .widerDeep, .widerDeep, .data, .data, .data, .data, .data, .data, .sentinel, .sentinel, .pinned, .pinned, .pinned, .pinned], laidTests := true, laidLooks := .later }
def DblShortCardSaid : Prop := Claim7.holds Tryz.pinned (.plain (OpenSpec.ofChange dblShortSpec)) dblShortCard

/-- THE TIED CARD OF 'chisellaw05.DblNums'. -/
def dblNumsCard : Claim7 := { stood := { row := dblNumsRow, standIns := [], harness := (true, "2d3d0e6783ce3f264f78a9d20cb54d6d563bc1a71f58a8e0017f9b217784264d"), looks := true }, kinds := [], alts := [], laidByText := true, laidKinds := [.data, .data, .widerDeep, .widerDeep, .data, .data, .data, .data, .data, .data, .sentinel, .sentinel, .pinned, .pinned, .pinned, .pinned], laidTests := true, laidLooks := .later }
def DblNumsCardSaid : Prop := Claim7.holds Tryz.pinned (.plain (OpenSpec.ofChange dblNumsSpec)) dblNumsCard

/-- THE TIED CARD OF 'chisellaw05.DblKnown'. -/
def dblKnownCard : Claim7 := { stood := { row := dblKnownRow, standIns := [], harness := (true, "2d3d0e6783ce3f264f78a9d20cb54d6d563bc1a71f58a8e0017f9b217784264d"), looks := true }, kinds := [], alts := [], laidByText := true, laidKinds := [.data, .data, .widerDeep, .widerDeep, .data, .data, .data, .data, .data, .data, .sentinel, .sentinel, .pinned, .pinned, .pinned, .pinned], laidTests := true, laidLooks := .later }
def DblKnownCardSaid : Prop := Claim7.holds Tryz.pinned (.plain (OpenSpec.ofChange dblKnownSpec)) dblKnownCard

/-- THE TIED CARD OF 'chisellaw05.DblOrders'. -/
def dblOrdersCard : Claim7 := { stood := { row := dblOrdersRow, standIns := [], harness := (true, "2d3d0e6783ce3f264f78a9d20cb54d6d563bc1a71f58a8e0017f9b217784264d"), looks := true }, kinds := [], alts := [], laidByText := true, laidKinds := [.data, .data, .widerDeep, .widerDeep, .data, .data, .data, .data, .data, .data, .sentinel, .sentinel, .pinned, .pinned, .pinned, .pinned], laidTests := true, laidLooks := .later }
def DblOrdersCardSaid : Prop := Claim7.holds Tryz.pinned (.plain (OpenSpec.ofChange dblOrdersSpec)) dblOrdersCard

/-- THE SECOND FORM's CARD OF 'chisellaw05.DblParses'. -/
def dblParsesUptoCard : Claim7 := { stood := { row := dblParsesUptoRow, standIns := [], harness := (true, "2d3d0e6783ce3f264f78a9d20cb54d6d563bc1a71f58a8e0017f9b217784264d"), looks := true }, kinds := [], alts := [], laidByText := true, laidKinds := [.data, .data, .widerDeep, .widerDeep, .data, .data, .data, .data, .data, .data, .sentinel, .sentinel, .pinned, .pinned, .pinned, .pinned], laidTests := true, laidLooks := .later }
def DblParsesUptoCardSaid : Prop := Claim7.holds Tryz.pinned (.plain (OpenSpec.upto dblParsesSpec)) dblParsesUptoCard

/-- THE SECOND FORM's CARD OF 'chisellaw05.DblTexts'. -/
def dblTextsUptoCard : Claim7 := { stood := { row := dblTextsUptoRow, standIns := [], harness := (true, "2d3d0e6783ce3f264f78a9d20cb54d6d563bc1a71f58a8e0017f9b217784264d"), looks := true }, kinds := [], alts := [], laidByText := true, laidKinds := [.data, .data, .widerDeep, .widerDeep, .data, .data, .data, .data, .data, .data, .sentinel, .sentinel, .pinned, .pinned, .pinned, .pinned], laidTests := true, laidLooks := .later }
def DblTextsUptoCardSaid : Prop := Claim7.holds Tryz.pinned (.plain (OpenSpec.upto dblTextsSpec)) dblTextsUptoCard

/-- THE SECOND FORM's CARD OF 'chisellaw05.DblOps'. -/
def dblOpsUptoCard : Claim7 := { stood := { row := dblOpsUptoRow, standIns := [], harness := (true, "2d3d0e6783ce3f264f78a9d20cb54d6d563bc1a71f58a8e0017f9b217784264d"), looks := true }, kinds := [], alts := [], laidByText := true, laidKinds := [.data, .data, .widerDeep, .widerDeep, .data, .data, .data, .data, .data, .data, .sentinel, .sentinel, .pinned, .pinned, .pinned, .pinned], laidTests := true, laidLooks := .later }
def DblOpsUptoCardSaid : Prop := Claim7.holds Tryz.pinned (.plain (OpenSpec.upto dblOpsSpec)) dblOpsUptoCard

/-- THE SECOND FORM's CARD OF 'chisellaw05.DblRounds'. -/
def dblRoundsUptoCard : Claim7 := { stood := { row := dblRoundsUptoRow, standIns := [], harness := (true, "2d3d0e6783ce3f264f78a9d20cb54d6d563bc1a71f58a8e0017f9b217784264d"), looks := true }, kinds := [], alts := [], laidByText := true, laidKinds := [.data, .data, .widerDeep, .widerDeep, .data, .data, .data, .data, .data, .data, .sentinel, .sentinel, .pinned, .pinned, .pinned, .pinned], laidTests := true, laidLooks := .later }
def DblRoundsUptoCardSaid : Prop := Claim7.holds Tryz.pinned (.plain (OpenSpec.upto dblRoundsSpec)) dblRoundsUptoCard

/-- THE SECOND FORM's CARD OF 'chisellaw05.DblBack'. -/
def dblBackUptoCard : Claim7 := { stood := { row := dblBackUptoRow, standIns := [], harness := (true, "2d3d0e6783ce3f264f78a9d20cb54d6d563bc1a71f58a8e0017f9b217784264d"), looks := true }, kinds := [], alts := [], laidByText := true, laidKinds := [.data, .data, .widerDeep, .widerDeep, .data, .data, .data, .data, .data, .data, .sentinel, .sentinel, .pinned, .pinned, .pinned, .pinned], laidTests := true, laidLooks := .later }
def DblBackUptoCardSaid : Prop := Claim7.holds Tryz.pinned (.plain (OpenSpec.upto dblBackSpec)) dblBackUptoCard

/-- THE SECOND FORM's CARD OF 'chisellaw05.DblRemains'. -/
def dblRemainsUptoCard : Claim7 := { stood := { row := dblRemainsUptoRow, standIns := [], harness := (true, "2d3d0e6783ce3f264f78a9d20cb54d6d563bc1a71f58a8e0017f9b217784264d"), looks := true }, kinds := [], alts := [], laidByText := true, laidKinds := [.data, .data, .widerDeep, .widerDeep, .data, .data, .data, .data, .data, .data, .sentinel, .sentinel, .pinned, .pinned, .pinned, .pinned], laidTests := true, laidLooks := .later }
def DblRemainsUptoCardSaid : Prop := Claim7.holds Tryz.pinned (.plain (OpenSpec.upto dblRemainsSpec)) dblRemainsUptoCard

/-- THE SECOND FORM's CARD OF 'chisellaw05.DblSigns'. -/
def dblSignsUptoCard : Claim7 := { stood := { row := dblSignsUptoRow, standIns := [], harness := (true, "2d3d0e6783ce3f264f78a9d20cb54d6d563bc1a71f58a8e0017f9b217784264d"), looks := true }, kinds := [], alts := [], laidByText := true, laidKinds := [.data, .data, .widerDeep, .widerDeep, .data, .data, .data, .data, .data, .data, .sentinel, .sentinel, .pinned, .pinned, .pinned, .pinned], laidTests := true, laidLooks := .later }
def DblSignsUptoCardSaid : Prop := Claim7.holds Tryz.pinned (.plain (OpenSpec.upto dblSignsSpec)) dblSignsUptoCard

/-- THE SECOND FORM's CARD OF 'chisellaw05.DblRounded'. -/
def dblRoundedUptoCard : Claim7 := { stood := { row := dblRoundedUptoRow, standIns := [], harness := (true, "2d3d0e6783ce3f264f78a9d20cb54d6d563bc1a71f58a8e0017f9b217784264d"), looks := true }, kinds := [], alts := [], laidByText := true, laidKinds := [.data, .data, .widerDeep, .widerDeep, .data, .data, .data, .data, .data, .data, .sentinel, .sentinel, .pinned, .pinned, .pinned, .pinned], laidTests := true, laidLooks := .later }
def DblRoundedUptoCardSaid : Prop := Claim7.holds Tryz.pinned (.plain (OpenSpec.upto dblRoundedSpec)) dblRoundedUptoCard

/-- THE SECOND FORM's CARD OF 'chisellaw05.DblShort'. -/
def dblShortUptoCard : Claim7 := { stood := { row := dblShortUptoRow, standIns := [], harness := (true, "2d3d0e6783ce3f264f78a9d20cb54d6d563bc1a71f58a8e0017f9b217784264d"), looks := true }, kinds := [], alts := [], laidByText := true, laidKinds := [.data, .data, .widerDeep, .widerDeep, .data, .data, .data, .data, .data, .data, .sentinel, .sentinel, .pinned, .pinned, .pinned, .pinned], laidTests := true, laidLooks := .later }
def DblShortUptoCardSaid : Prop := Claim7.holds Tryz.pinned (.plain (OpenSpec.upto dblShortSpec)) dblShortUptoCard

/-- THE SECOND FORM's CARD OF 'chisellaw05.DblNums'. -/
def dblNumsUptoCard : Claim7 := { stood := { row := dblNumsUptoRow, standIns := [], harness := (true, "2d3d0e6783ce3f264f78a9d20cb54d6d563bc1a71f58a8e0017f9b217784264d"), looks := true }, kinds := [], alts := [], laidByText := true, laidKinds := [.data, .data, .widerDeep, .widerDeep, .data, .data, .data, .data, .data, .data, .sentinel, .sentinel, .pinned, .pinned, .pinned, .pinned], laidTests := true, laidLooks := .later }
def DblNumsUptoCardSaid : Prop := Claim7.holds Tryz.pinned (.plain (OpenSpec.upto dblNumsSpec)) dblNumsUptoCard

/-- THE SECOND FORM's CARD OF 'chisellaw05.DblKnown'. -/
def dblKnownUptoCard : Claim7 := { stood := { row := dblKnownUptoRow, standIns := [], harness := (true, "2d3d0e6783ce3f264f78a9d20cb54d6d563bc1a71f58a8e0017f9b217784264d"), looks := true }, kinds := [], alts := [], laidByText := true, laidKinds := [.data, .data, .widerDeep, .widerDeep, .data, .data, .data, .data, .data, .data, .sentinel, .sentinel, .pinned, .pinned, .pinned, .pinned], laidTests := true, laidLooks := .later }
def DblKnownUptoCardSaid : Prop := Claim7.holds Tryz.pinned (.plain (OpenSpec.upto dblKnownSpec)) dblKnownUptoCard

/-- THE SECOND FORM's CARD OF 'chisellaw05.DblOrders'. -/
def dblOrdersUptoCard : Claim7 := { stood := { row := dblOrdersUptoRow, standIns := [], harness := (true, "2d3d0e6783ce3f264f78a9d20cb54d6d563bc1a71f58a8e0017f9b217784264d"), looks := true }, kinds := [], alts := [], laidByText := true, laidKinds := [.data, .data, .widerDeep, .widerDeep, .data, .data, .data, .data, .data, .data, .sentinel, .sentinel, .pinned, .pinned, .pinned, .pinned], laidTests := true, laidLooks := .later }
def DblOrdersUptoCardSaid : Prop := Claim7.holds Tryz.pinned (.plain (OpenSpec.upto dblOrdersSpec)) dblOrdersUptoCard
end Rows
end Go.Proofs.YtmadknpaljaecaaGreatDoor

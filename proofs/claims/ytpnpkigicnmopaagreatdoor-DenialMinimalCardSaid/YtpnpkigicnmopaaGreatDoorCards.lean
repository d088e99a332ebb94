/-
  DERIVED. GIVEN WITH THE SEED: THE CARDS: each row of YtpnpkigicnmopaaGreatDoorRows.lean that lists a variable, with what it lists TIED to the program's text (the seventh form; the later family's looks); each row that meets fmt, with fmt's text TOLD by the authors' own Lean function (tested against real Go, not proved from fmt's source: count such statements apart). THE CARD IS WHAT COUNTS. Prove the row's statement (the work); the ties are given (YtpnpkigicnmopaaGreatDoorTie.lean); close each card by the builder's one call (the guide's Derived/Test/ToyasCard.lean, 'card_holds'). Laid BY PROGRAM, IN A SANDBOX (cutbox-door.mjs). By AI agents, Wed Nov 11 2026. No macro, syntax, notation, axiom, sorry.
-/
import Derived.Test.YtpnpkigicnmopaaGreatDoorRows
import GoSem.ClaimSeven
namespace Go.Proofs.YtpnpkigicnmopaaGreatDoor
namespace Rows

/-- THE TIED CARD OF 'cleanselaw25.DenialMatchesReference'. -/
def denialMatchesReferenceCard : Claim7 := { stood := { row := denialMatchesReferenceRow, standIns := [], harness := (true, "49c22cd40531e0a5935ea59eb1785f2fd0eb702db4aed61b97646984eda5cce0"), looks := true }, kinds := [], alts := [], laidByText := true, laidKinds := [.data, .data, .data], laidTests := true, laidLooks := .later }
def DenialMatchesReferenceCardSaid : Prop := Claim7.holds Tryz.pinned (.plain (OpenSpec.ofChange denialMatchesReferenceSpec)) denialMatchesReferenceCard

/-- THE TIED CARD OF 'cleanselaw25.DenialMinimal'. -/
def denialMinimalCard : Claim7 := { stood := { row := denialMinimalRow, standIns := [], harness := (true, "49c22cd40531e0a5935ea59eb1785f2fd0eb702db4aed61b97646984eda5cce0"), looks := true }, kinds := [], alts := [], laidByText := true, laidKinds := [.data, .data, .data], laidTests := true, laidLooks := .later }
def DenialMinimalCardSaid : Prop := Claim7.holds Tryz.pinned (.plain (OpenSpec.ofChange denialMinimalSpec)) denialMinimalCard

/-- THE TIED CARD OF 'cleanselaw25.DenialComplete'. -/
def denialCompleteCard : Claim7 := { stood := { row := denialCompleteRow, standIns := [], harness := (true, "49c22cd40531e0a5935ea59eb1785f2fd0eb702db4aed61b97646984eda5cce0"), looks := true }, kinds := [], alts := [], laidByText := true, laidKinds := [.data, .data, .data], laidTests := true, laidLooks := .later }
def DenialCompleteCardSaid : Prop := Claim7.holds Tryz.pinned (.plain (OpenSpec.ofChange denialCompleteSpec)) denialCompleteCard

/-- THE TIED CARD OF 'cleanselaw25.DenialOrder'. -/
def denialOrderCard : Claim7 := { stood := { row := denialOrderRow, standIns := [], harness := (true, "49c22cd40531e0a5935ea59eb1785f2fd0eb702db4aed61b97646984eda5cce0"), looks := true }, kinds := [], alts := [], laidByText := true, laidKinds := [.data, .data, .data], laidTests := true, laidLooks := .later }
def DenialOrderCardSaid : Prop := Claim7.holds Tryz.pinned (.plain (OpenSpec.ofChange denialOrderSpec)) denialOrderCard

/-- THE TIED CARD OF 'cleanselaw25.DenialLowers'. -/
def denialLowersCard : Claim7 := { stood := { row := denialLowersRow, standIns := [], harness := (true, "49c22cd40531e0a5935ea59eb1785f2fd0eb702db4aed61b97646984eda5cce0"), looks := true }, kinds := [], alts := [], laidByText := true, laidKinds := [.data, .data, .data], laidTests := true, laidLooks := .later }
def DenialLowersCardSaid : Prop := Claim7.holds Tryz.pinned (.plain (OpenSpec.ofChange denialLowersSpec)) denialLowersCard

/-- THE TIED CARD OF 'cleanselaw25.DenialSupport'. -/
def denialSupportCard : Claim7 := { stood := { row := denialSupportRow, standIns := [], harness := (true, "49c22cd40531e0a5935ea59eb1785f2fd0eb702db4aed61b97646984eda5cce0"), looks := true }, kinds := [], alts := [], laidByText := true, laidKinds := [.data, .data, .data], laidTests := true, laidLooks := .later }
def DenialSupportCardSaid : Prop := Claim7.holds Tryz.pinned (.plain (OpenSpec.ofChange denialSupportSpec)) denialSupportCard

/-- THE TIED CARD OF 'cleanselaw25.DenialVariants'. -/
def denialVariantsCard : Claim7 := { stood := { row := denialVariantsRow, standIns := [], harness := (true, "49c22cd40531e0a5935ea59eb1785f2fd0eb702db4aed61b97646984eda5cce0"), looks := true }, kinds := [], alts := [], laidByText := true, laidKinds := [.data, .data, .data], laidTests := true, laidLooks := .later }
def DenialVariantsCardSaid : Prop := Claim7.holds Tryz.pinned (.plain (OpenSpec.ofChange denialVariantsSpec)) denialVariantsCard

/-- THE TIED CARD OF 'cleanselaw19.BlockMatchesReference'. -/
def blockMatchesReferenceCard : Claim7 := { stood := { row := blockMatchesReferenceRow, standIns := [], harness := (true, "49c22cd40531e0a5935ea59eb1785f2fd0eb702db4aed61b97646984eda5cce0"), looks := true }, kinds := [], alts := [], laidByText := true, laidKinds := [.data, .data, .data], laidTests := true, laidLooks := .later }
def BlockMatchesReferenceCardSaid : Prop := Claim7.holds Tryz.pinned (.plain (OpenSpec.ofChange blockMatchesReferenceSpec)) blockMatchesReferenceCard

/-- THE TIED CARD OF 'cleanselaw19.BlockKeys'. -/
def blockKeysCard : Claim7 := { stood := { row := blockKeysRow, standIns := [], harness := (true, "49c22cd40531e0a5935ea59eb1785f2fd0eb702db4aed61b97646984eda5cce0"), looks := true }, kinds := [], alts := [], laidByText := true, laidKinds := [.data, .data, .data], laidTests := true, laidLooks := .later }
def BlockKeysCardSaid : Prop := Claim7.holds Tryz.pinned (.plain (OpenSpec.ofChange blockKeysSpec)) blockKeysCard

/-- THE TIED CARD OF 'cleanselaw19.BlockPairs'. -/
def blockPairsCard : Claim7 := { stood := { row := blockPairsRow, standIns := [], harness := (true, "49c22cd40531e0a5935ea59eb1785f2fd0eb702db4aed61b97646984eda5cce0"), looks := true }, kinds := [], alts := [], laidByText := true, laidKinds := [.data, .data, .data], laidTests := true, laidLooks := .later }
def BlockPairsCardSaid : Prop := Claim7.holds Tryz.pinned (.plain (OpenSpec.ofChange blockPairsSpec)) blockPairsCard

/-- THE TIED CARD OF 'cleanselaw19.BlockOrder'. -/
def blockOrderCard : Claim7 := { stood := { row := blockOrderRow, standIns := [], harness := (true, "49c22cd40531e0a5935ea59eb1785f2fd0eb702db4aed61b97646984eda5cce0"), looks := true }, kinds := [], alts := [], laidByText := true, laidKinds := [.data, .data, .data], laidTests := true, laidLooks := .later }
def BlockOrderCardSaid : Prop := Claim7.holds Tryz.pinned (.plain (OpenSpec.ofChange blockOrderSpec)) blockOrderCard

/-- THE TIED CARD OF 'cleanselaw19.BlockMore'. -/
def blockMoreCard : Claim7 := { stood := { row := blockMoreRow, standIns := [], harness := (true, "49c22cd40531e0a5935ea59eb1785f2fd0eb702db4aed61b97646984eda5cce0"), looks := true }, kinds := [], alts := [], laidByText := true, laidKinds := [.data, .data, .data], laidTests := true, laidLooks := .later }
def BlockMoreCardSaid : Prop := Claim7.holds Tryz.pinned (.plain (OpenSpec.ofChange blockMoreSpec)) blockMoreCard

/-- THE TIED CARD OF 'cleanselaw19.BlockFolds'. -/
def blockFoldsCard : Claim7 := { stood := { row := blockFoldsRow, standIns := [], harness := (true, "49c22cd40531e0a5935ea59eb1785f2fd0eb702db4aed61b97646984eda5cce0"), looks := true }, kinds := [], alts := [], laidByText := true, laidKinds := [.data, .data, .data], laidTests := true, laidLooks := .later }
def BlockFoldsCardSaid : Prop := Claim7.holds Tryz.pinned (.plain (OpenSpec.ofChange blockFoldsSpec)) blockFoldsCard

/-- THE TIED CARD OF 'cleanselaw19.BlockTokens'. -/
def blockTokensCard : Claim7 := { stood := { row := blockTokensRow, standIns := [], harness := (true, "49c22cd40531e0a5935ea59eb1785f2fd0eb702db4aed61b97646984eda5cce0"), looks := true }, kinds := [], alts := [], laidByText := true, laidKinds := [.data, .data, .data], laidTests := true, laidLooks := .later }
def BlockTokensCardSaid : Prop := Claim7.holds Tryz.pinned (.plain (OpenSpec.ofChange blockTokensSpec)) blockTokensCard

/-- THE TIED CARD OF 'cleanselaw26.VigilMatchesReference'. -/
def vigilMatchesReferenceCard : Claim7 := { stood := { row := vigilMatchesReferenceRow, standIns := [], harness := (true, "49c22cd40531e0a5935ea59eb1785f2fd0eb702db4aed61b97646984eda5cce0"), looks := true }, kinds := [], alts := [], laidByText := true, laidKinds := [.data, .data, .data], laidTests := true, laidLooks := .later }
def VigilMatchesReferenceCardSaid : Prop := Claim7.holds Tryz.pinned (.plain (OpenSpec.ofChange vigilMatchesReferenceSpec)) vigilMatchesReferenceCard

/-- THE TIED CARD OF 'cleanselaw26.VigilOrder'. -/
def vigilOrderCard : Claim7 := { stood := { row := vigilOrderRow, standIns := [], harness := (true, "49c22cd40531e0a5935ea59eb1785f2fd0eb702db4aed61b97646984eda5cce0"), looks := true }, kinds := [], alts := [], laidByText := true, laidKinds := [.data, .data, .data], laidTests := true, laidLooks := .later }
def VigilOrderCardSaid : Prop := Claim7.holds Tryz.pinned (.plain (OpenSpec.ofChange vigilOrderSpec)) vigilOrderCard

/-- THE TIED CARD OF 'cleanselaw26.VigilPut'. -/
def vigilPutCard : Claim7 := { stood := { row := vigilPutRow, standIns := [], harness := (true, "49c22cd40531e0a5935ea59eb1785f2fd0eb702db4aed61b97646984eda5cce0"), looks := true }, kinds := [], alts := [], laidByText := true, laidKinds := [.data, .data, .data], laidTests := true, laidLooks := .later }
def VigilPutCardSaid : Prop := Claim7.holds Tryz.pinned (.plain (OpenSpec.ofChange vigilPutSpec)) vigilPutCard

/-- THE TIED CARD OF 'cleanselaw26.VigilDrop'. -/
def vigilDropCard : Claim7 := { stood := { row := vigilDropRow, standIns := [], harness := (true, "49c22cd40531e0a5935ea59eb1785f2fd0eb702db4aed61b97646984eda5cce0"), looks := true }, kinds := [], alts := [], laidByText := true, laidKinds := [.data, .data, .data], laidTests := true, laidLooks := .later }
def VigilDropCardSaid : Prop := Claim7.holds Tryz.pinned (.plain (OpenSpec.ofChange vigilDropSpec)) vigilDropCard

/-- THE TIED CARD OF 'cleanselaw26.VigilRefuses'. -/
def vigilRefusesCard : Claim7 := { stood := { row := vigilRefusesRow, standIns := [], harness := (true, "49c22cd40531e0a5935ea59eb1785f2fd0eb702db4aed61b97646984eda5cce0"), looks := true }, kinds := [], alts := [], laidByText := true, laidKinds := [.data, .data, .data], laidTests := true, laidLooks := .later }
def VigilRefusesCardSaid : Prop := Claim7.holds Tryz.pinned (.plain (OpenSpec.ofChange vigilRefusesSpec)) vigilRefusesCard

/-- THE TIED CARD OF 'cleanselaw26.VigilScratch'. -/
def vigilScratchCard : Claim7 := { stood := { row := vigilScratchRow, standIns := [], harness := (true, "49c22cd40531e0a5935ea59eb1785f2fd0eb702db4aed61b97646984eda5cce0"), looks := true }, kinds := [], alts := [], laidByText := true, laidKinds := [.data, .data, .data], laidTests := true, laidLooks := .later }
def VigilScratchCardSaid : Prop := Claim7.holds Tryz.pinned (.plain (OpenSpec.ofChange vigilScratchSpec)) vigilScratchCard

/-- THE SECOND FORM's CARD OF 'cleanselaw25.DenialMatchesReference'. -/
def denialMatchesReferenceUptoCard : Claim7 := { stood := { row := denialMatchesReferenceUptoRow, standIns := [], harness := (true, "49c22cd40531e0a5935ea59eb1785f2fd0eb702db4aed61b97646984eda5cce0"), looks := true }, kinds := [], alts := [], laidByText := true, laidKinds := [.data, .data, .data], laidTests := true, laidLooks := .later }
def DenialMatchesReferenceUptoCardSaid : Prop := Claim7.holds Tryz.pinned (.plain (OpenSpec.upto denialMatchesReferenceSpec)) denialMatchesReferenceUptoCard

/-- THE SECOND FORM's CARD OF 'cleanselaw25.DenialMinimal'. -/
def denialMinimalUptoCard : Claim7 := { stood := { row := denialMinimalUptoRow, standIns := [], harness := (true, "49c22cd40531e0a5935ea59eb1785f2fd0eb702db4aed61b97646984eda5cce0"), looks := true }, kinds := [], alts := [], laidByText := true, laidKinds := [.data, .data, .data], laidTests := true, laidLooks := .later }
def DenialMinimalUptoCardSaid : Prop := Claim7.holds Tryz.pinned (.plain (OpenSpec.upto denialMinimalSpec)) denialMinimalUptoCard

/-- THE SECOND FORM's CARD OF 'cleanselaw25.DenialComplete'. -/
def denialCompleteUptoCard : Claim7 := { stood := { row := denialCompleteUptoRow, standIns := [], harness := (true, "49c22cd40531e0a5935ea59eb1785f2fd0eb702db4aed61b97646984eda5cce0"), looks := true }, kinds := [], alts := [], laidByText := true, laidKinds := [.data, .data, .data], laidTests := true, laidLooks := .later }
def DenialCompleteUptoCardSaid : Prop := Claim7.holds Tryz.pinned (.plain (OpenSpec.upto denialCompleteSpec)) denialCompleteUptoCard

/-- THE SECOND FORM's CARD OF 'cleanselaw25.DenialOrder'. -/
def denialOrderUptoCard : Claim7 := { stood := { row := denialOrderUptoRow, standIns := [], harness := (true, "49c22cd40531e0a5935ea59eb1785f2fd0eb702db4aed61b97646984eda5cce0"), looks := true }, kinds := [], alts := [], laidByText := true, laidKinds := [.data, .data, .data], laidTests := true, laidLooks := .later }
def DenialOrderUptoCardSaid : Prop := Claim7.holds Tryz.pinned (.plain (OpenSpec.upto denialOrderSpec)) denialOrderUptoCard

/-- THE SECOND FORM's CARD OF 'cleanselaw25.DenialLowers'. -/
def denialLowersUptoCard : Claim7 := { stood := { row := denialLowersUptoRow, standIns := [], harness := (true, "49c22cd40531e0a5935ea59eb1785f2fd0eb702db4aed61b97646984eda5cce0"), looks := true }, kinds := [], alts := [], laidByText := true, laidKinds := [.data, .data, .data], laidTests := true, laidLooks := .later }
def DenialLowersUptoCardSaid : Prop := Claim7.holds Tryz.pinned (.plain (OpenSpec.upto denialLowersSpec)) denialLowersUptoCard

/-- THE SECOND FORM's CARD OF 'cleanselaw25.DenialSupport'. -/
def denialSupportUptoCard : Claim7 := { stood := { row := denialSupportUptoRow, standIns := [], harness := (true, "49c22cd40531e0a5935ea59eb1785f2fd0eb702db4aed61b97646984eda5cce0"), looks := true }, kinds := [], alts := [], laidByText := true, laidKinds := [.data, .data, .data], laidTests := true, laidLooks := .later }
def DenialSupportUptoCardSaid : Prop := Claim7.holds Tryz.pinned (.plain (OpenSpec.upto denialSupportSpec)) denialSupportUptoCard

/-- THE SECOND FORM's CARD OF 'cleanselaw25.DenialVariants'. -/
def denialVariantsUptoCard : Claim7 := { stood := { row := denialVariantsUptoRow, standIns := [], harness := (true, "49c22cd40531e0a5935ea59eb1785f2fd0eb702db4aed61b97646984eda5cce0"), looks := true }, kinds := [], alts := [], laidByText := true, laidKinds := [.data, .data, .data], laidTests := true, laidLooks := .later }
def DenialVariantsUptoCardSaid : Prop := Claim7.holds Tryz.pinned (.plain (OpenSpec.upto denialVariantsSpec)) denialVariantsUptoCard

/-- THE SECOND FORM's CARD OF 'cleanselaw19.BlockMatchesReference'. -/
def blockMatchesReferenceUptoCard : Claim7 := { stood := { row := blockMatchesReferenceUptoRow, standIns := [], harness := (true, "49c22cd40531e0a5935ea59eb1785f2fd0eb702db4aed61b97646984eda5cce0"), looks := true }, kinds := [], alts := [], laidByText := true, laidKinds := [.data, .data, .data], laidTests := true, laidLooks := .later }
def BlockMatchesReferenceUptoCardSaid : Prop := Claim7.holds Tryz.pinned (.plain (OpenSpec.upto blockMatchesReferenceSpec)) blockMatchesReferenceUptoCard

/-- THE SECOND FORM's CARD OF 'cleanselaw19.BlockKeys'. -/
def blockKeysUptoCard : Claim7 := { stood := { row := blockKeysUptoRow, standIns := [], harness := (true, "49c22cd40531e0a5935ea59eb1785f2fd0eb702db4aed61b97646984eda5cce0"), looks := true }, kinds := [], alts := [], laidByText := true, laidKinds := [.data, .data, .data], laidTests := true, laidLooks := .later }
def BlockKeysUptoCardSaid : Prop := Claim7.holds Tryz.pinned (.plain (OpenSpec.upto blockKeysSpec)) blockKeysUptoCard

/-- THE SECOND FORM's CARD OF 'cleanselaw19.BlockPairs'. -/
def blockPairsUptoCard : Claim7 := { stood := { row := blockPairsUptoRow, standIns := [], harness := (true, "49c22cd40531e0a5935ea59eb1785f2fd0eb702db4aed61b97646984eda5cce0"), looks := true }, kinds := [], alts := [], laidByText := true, laidKinds := [.data, .data, .data], laidTests := true, laidLooks := .later }
def BlockPairsUptoCardSaid : Prop := Claim7.holds Tryz.pinned (.plain (OpenSpec.upto blockPairsSpec)) blockPairsUptoCard

/-- THE SECOND FORM's CARD OF 'cleanselaw19.BlockOrder'. -/
def blockOrderUptoCard : Claim7 := { stood := { row := blockOrderUptoRow, standIns := [], harness := (true, "49c22cd40531e0a5935ea59eb1785f2fd0eb702db4aed61b97646984eda5cce0"), looks := true }, kinds := [], alts := [], laidByText := true, laidKinds := [.data, .data, .data], laidTests := true, laidLooks := .later }
def BlockOrderUptoCardSaid : Prop := Claim7.holds Tryz.pinned (.plain (OpenSpec.upto blockOrderSpec)) blockOrderUptoCard

/-- THE SECOND FORM's CARD OF 'cleanselaw19.BlockMore'. -/
def blockMoreUptoCard : Claim7 := { stood := { row := blockMoreUptoRow, standIns := [], harness := (true, "49c22cd40531e0a5935ea59eb1785f2fd0eb702db4aed61b97646984eda5cce0"), looks := true }, kinds := [], alts := [], laidByText := true, laidKinds := [.data, .data, .data], laidTests := true, laidLooks := .later }
def BlockMoreUptoCardSaid : Prop := Claim7.holds Tryz.pinned (.plain (OpenSpec.upto blockMoreSpec)) blockMoreUptoCard

/-- THE SECOND FORM's CARD OF 'cleanselaw19.BlockFolds'. -/
def blockFoldsUptoCard : Claim7 := { stood := { row := blockFoldsUptoRow, standIns := [], harness := (true, "49c22cd40531e0a5935ea59eb1785f2fd0eb702db4aed61b97646984eda5cce0"), looks := true }, kinds := [], alts := [], laidByText := true, laidKinds := [.data, .data, .data], laidTests := true, laidLooks := .later }
def BlockFoldsUptoCardSaid : Prop := Claim7.holds Tryz.pinned (.plain (OpenSpec.upto blockFoldsSpec)) blockFoldsUptoCard

/-- THE SECOND FORM's CARD OF 'cleanselaw19.BlockTokens'. -/
def blockTokensUptoCard : Claim7 := { stood := { row := blockTokensUptoRow, standIns := [], harness := (true, "49c22cd40531e0a5935ea59eb1785f2fd0eb702db4aed61b97646984eda5cce0"), looks := true }, kinds := [], alts := [], laidByText := true, laidKinds := [.data, .data, .data], laidTests := true, laidLooks := .later }
def BlockTokensUptoCardSaid : Prop := Claim7.holds Tryz.pinned (.plain (OpenSpec.upto blockTokensSpec)) blockTokensUptoCard

/-- THE SECOND FORM's CARD OF 'cleanselaw26.VigilMatchesReference'. -/
def vigilMatchesReferenceUptoCard : Claim7 := { stood := { row := vigilMatchesReferenceUptoRow, standIns := [], harness := (true, "49c22cd40531e0a5935ea59eb1785f2fd0eb702db4aed61b97646984eda5cce0"), looks := true }, kinds := [], alts := [], laidByText := true, laidKinds := [.data, .data, .data], laidTests := true, laidLooks := .later }
def VigilMatchesReferenceUptoCardSaid : Prop := Claim7.holds Tryz.pinned (.plain (OpenSpec.upto vigilMatchesReferenceSpec)) vigilMatchesReferenceUptoCard

/-- THE SECOND FORM's CARD OF 'cleanselaw26.VigilOrder'. -/
def vigilOrderUptoCard : Claim7 := { stood := { row := vigilOrderUptoRow, standIns := [], harness := (true, "49c22cd40531e0a5935ea59eb1785f2fd0eb702db4aed61b97646984eda5cce0"), looks := true }, kinds := [], alts := [], laidByText := true, laidKinds := [.data, .data, .data], laidTests := true, laidLooks := .later }
def VigilOrderUptoCardSaid : Prop := Claim7.holds Tryz.pinned (.plain (OpenSpec.upto vigilOrderSpec)) vigilOrderUptoCard

/-- THE SECOND FORM's CARD OF 'cleanselaw26.VigilPut'. -/
def vigilPutUptoCard : Claim7 := { stood := { row := vigilPutUptoRow, standIns := [], harness := (true, "49c22cd40531e0a5935ea59eb1785f2fd0eb702db4aed61b97646984eda5cce0"), looks := true }, kinds := [], alts := [], laidByText := true, laidKinds := [.data, .data, .data], laidTests := true, laidLooks := .later }
def VigilPutUptoCardSaid : Prop := Claim7.holds Tryz.pinned (.plain (OpenSpec.upto vigilPutSpec)) vigilPutUptoCard

/-- THE SECOND FORM's CARD OF 'cleanselaw26.VigilDrop'. -/
def vigilDropUptoCard : Claim7 := { stood := { row := vigilDropUptoRow, standIns := [], harness := (true, "49c22cd40531e0a5935ea59eb1785f2fd0eb702db4aed61b97646984eda5cce0"), looks := true }, kinds := [], alts := [], laidByText := true, laidKinds := [.data, .data, .data], laidTests := true, laidLooks := .later }
def VigilDropUptoCardSaid : Prop := Claim7.holds Tryz.pinned (.plain (OpenSpec.upto vigilDropSpec)) vigilDropUptoCard

/-- THE SECOND FORM's CARD OF 'cleanselaw26.VigilRefuses'. -/
def vigilRefusesUptoCard : Claim7 := { stood := { row := vigilRefusesUptoRow, standIns := [], harness := (true, "49c22cd40531e0a5935ea59eb1785f2fd0eb702db4aed61b97646984eda5cce0"), looks := true }, kinds := [], alts := [], laidByText := true, laidKinds := [.data, .data, .data], laidTests := true, laidLooks := .later }
def VigilRefusesUptoCardSaid : Prop := Claim7.holds Tryz.pinned (.plain (OpenSpec.upto vigilRefusesSpec)) vigilRefusesUptoCard

/-- THE SECOND FORM's CARD OF 'cleanselaw26.VigilScratch'. -/
def vigilScratchUptoCard : Claim7 := { stood := { row := vigilScratchUptoRow, standIns := [], harness := (true, "49c22cd40531e0a5935ea59eb1785f2fd0eb702db4aed61b97646984eda5cce0"), looks := true }, kinds := [], alts := [], laidByText := true, laidKinds := [.data, .data, .data], laidTests := true, laidLooks := .later }
def VigilScratchUptoCardSaid : Prop := Claim7.holds Tryz.pinned (.plain (OpenSpec.upto vigilScratchSpec)) vigilScratchUptoCard
end Rows
end Go.Proofs.YtpnpkigicnmopaaGreatDoor

/-
  DERIVED. GIVEN WITH THE SEED: THE CARDS: each row of YtnhgfmegaoibeaaDoorRows.lean that lists a variable, with what it lists TIED to the program's text (the seventh form; the later family's looks); each row that meets fmt, with fmt's text TOLD by the authors' own Lean function (tested against real Go, not proved from fmt's source: count such statements apart). THE CARD IS WHAT COUNTS. Prove the row's statement (the work); the ties are given (YtnhgfmegaoibeaaDoorTie.lean); close each card by the builder's one call (the guide's Derived/Test/ToyasCard.lean, 'card_holds'). Laid BY PROGRAM, IN A SANDBOX (cutbox-door.mjs). By AI agents, Wed Nov 11 2026. No macro, syntax, notation, axiom, sorry.
-/
import Derived.Test.YtnhgfmegaoibeaaDoorRows
import GoSem.ClaimSeven
namespace Go.Proofs.YtnhgfmegaoibeaaDoor
namespace Rows

/-- THE TIED CARD OF 'panachelaw09.TwinPatterns'. -/
def twinPatternsCard : Claim7 := { stood := { row := twinPatternsRow, standIns := [], harness := (true, "8e6f3f19bb83bb0fee4edaa771ab3f31b5ec49527567e22ae21790816c50cb9b"), looks := false }, kinds := [], alts := [], laidByText := true, laidKinds := [.data], laidTests := true, laidLooks := .later }
def TwinPatternsCardSaid : Prop := Claim7.holds Tryd.pinned (.plain (OpenSpec.ofChange twinPatternsSpec)) twinPatternsCard

/-- THE TIED CARD OF 'panachelaw09.TwinTwins'. -/
def twinTwinsCard : Claim7 := { stood := { row := twinTwinsRow, standIns := [], harness := (true, "8e6f3f19bb83bb0fee4edaa771ab3f31b5ec49527567e22ae21790816c50cb9b"), looks := false }, kinds := [], alts := [], laidByText := true, laidKinds := [.data], laidTests := true, laidLooks := .later }
def TwinTwinsCardSaid : Prop := Claim7.holds Tryd.pinned (.plain (OpenSpec.ofChange twinTwinsSpec)) twinTwinsCard

/-- THE TIED CARD OF 'panachelaw09.TwinWrongs'. -/
def twinWrongsCard : Claim7 := { stood := { row := twinWrongsRow, standIns := [], harness := (true, "8e6f3f19bb83bb0fee4edaa771ab3f31b5ec49527567e22ae21790816c50cb9b"), looks := false }, kinds := [], alts := [], laidByText := true, laidKinds := [.data], laidTests := true, laidLooks := .later }
def TwinWrongsCardSaid : Prop := Claim7.holds Tryd.pinned (.plain (OpenSpec.ofChange twinWrongsSpec)) twinWrongsCard

/-- THE TIED CARD OF 'panachelaw09.TwinTruths'. -/
def twinTruthsCard : Claim7 := { stood := { row := twinTruthsRow, standIns := [], harness := (true, "8e6f3f19bb83bb0fee4edaa771ab3f31b5ec49527567e22ae21790816c50cb9b"), looks := false }, kinds := [], alts := [], laidByText := true, laidKinds := [.data], laidTests := true, laidLooks := .later }
def TwinTruthsCardSaid : Prop := Claim7.holds Tryd.pinned (.plain (OpenSpec.ofChange twinTruthsSpec)) twinTruthsCard

/-- THE TIED CARD OF 'panachelaw09.TwinBlames'. -/
def twinBlamesCard : Claim7 := { stood := { row := twinBlamesRow, standIns := [], harness := (true, "8e6f3f19bb83bb0fee4edaa771ab3f31b5ec49527567e22ae21790816c50cb9b"), looks := false }, kinds := [], alts := [], laidByText := true, laidKinds := [.data], laidTests := true, laidLooks := .later }
def TwinBlamesCardSaid : Prop := Claim7.holds Tryd.pinned (.plain (OpenSpec.ofChange twinBlamesSpec)) twinBlamesCard

/-- THE TIED CARD OF 'panachelaw09.TwinLooks'. -/
def twinLooksCard : Claim7 := { stood := { row := twinLooksRow, standIns := [], harness := (true, "8e6f3f19bb83bb0fee4edaa771ab3f31b5ec49527567e22ae21790816c50cb9b"), looks := false }, kinds := [], alts := [], laidByText := true, laidKinds := [.data], laidTests := true, laidLooks := .later }
def TwinLooksCardSaid : Prop := Claim7.holds Tryd.pinned (.plain (OpenSpec.ofChange twinLooksSpec)) twinLooksCard

/-- THE TIED CARD OF 'panachelaw09.TwinMade'. -/
def twinMadeCard : Claim7 := { stood := { row := twinMadeRow, standIns := [], harness := (true, "8e6f3f19bb83bb0fee4edaa771ab3f31b5ec49527567e22ae21790816c50cb9b"), looks := false }, kinds := [], alts := [], laidByText := true, laidKinds := [.data], laidTests := true, laidLooks := .later }
def TwinMadeCardSaid : Prop := Claim7.holds Tryd.pinned (.plain (OpenSpec.ofChange twinMadeSpec)) twinMadeCard

/-- THE TIED CARD OF 'panachelaw09.TwinSlips'. -/
def twinSlipsCard : Claim7 := { stood := { row := twinSlipsRow, standIns := [], harness := (true, "8e6f3f19bb83bb0fee4edaa771ab3f31b5ec49527567e22ae21790816c50cb9b"), looks := false }, kinds := [], alts := [], laidByText := true, laidKinds := [.data], laidTests := true, laidLooks := .later }
def TwinSlipsCardSaid : Prop := Claim7.holds Tryd.pinned (.plain (OpenSpec.ofChange twinSlipsSpec)) twinSlipsCard

/-- THE TIED CARD OF 'panachelaw09.TwinBlamed'. -/
def twinBlamedCard : Claim7 := { stood := { row := twinBlamedRow, standIns := [], harness := (true, "8e6f3f19bb83bb0fee4edaa771ab3f31b5ec49527567e22ae21790816c50cb9b"), looks := false }, kinds := [], alts := [], laidByText := true, laidKinds := [.data], laidTests := true, laidLooks := .later }
def TwinBlamedCardSaid : Prop := Claim7.holds Tryd.pinned (.plain (OpenSpec.ofChange twinBlamedSpec)) twinBlamedCard

/-- THE TIED CARD OF 'panachelaw09.TwinBetter'. -/
def twinBetterCard : Claim7 := { stood := { row := twinBetterRow, standIns := [], harness := (true, "8e6f3f19bb83bb0fee4edaa771ab3f31b5ec49527567e22ae21790816c50cb9b"), looks := false }, kinds := [], alts := [], laidByText := true, laidKinds := [.data], laidTests := true, laidLooks := .later }
def TwinBetterCardSaid : Prop := Claim7.holds Tryd.pinned (.plain (OpenSpec.ofChange twinBetterSpec)) twinBetterCard

/-- THE TIED CARD OF 'panachelaw09.TwinAnew'. -/
def twinAnewCard : Claim7 := { stood := { row := twinAnewRow, standIns := [], harness := (true, "8e6f3f19bb83bb0fee4edaa771ab3f31b5ec49527567e22ae21790816c50cb9b"), looks := false }, kinds := [], alts := [], laidByText := true, laidKinds := [.data], laidTests := true, laidLooks := .later }
def TwinAnewCardSaid : Prop := Claim7.holds Tryd.pinned (.plain (OpenSpec.ofChange twinAnewSpec)) twinAnewCard

/-- THE TIED CARD OF 'panachelaw09.TwinCopies'. -/
def twinCopiesCard : Claim7 := { stood := { row := twinCopiesRow, standIns := [], harness := (true, "8e6f3f19bb83bb0fee4edaa771ab3f31b5ec49527567e22ae21790816c50cb9b"), looks := false }, kinds := [], alts := [], laidByText := true, laidKinds := [.data], laidTests := true, laidLooks := .later }
def TwinCopiesCardSaid : Prop := Claim7.holds Tryd.pinned (.plain (OpenSpec.ofChange twinCopiesSpec)) twinCopiesCard

/-- THE TIED CARD OF 'panachelaw09.TwinFamilies'. -/
def twinFamiliesCard : Claim7 := { stood := { row := twinFamiliesRow, standIns := [], harness := (true, "8e6f3f19bb83bb0fee4edaa771ab3f31b5ec49527567e22ae21790816c50cb9b"), looks := false }, kinds := [], alts := [], laidByText := true, laidKinds := [.data], laidTests := true, laidLooks := .later }
def TwinFamiliesCardSaid : Prop := Claim7.holds Tryd.pinned (.plain (OpenSpec.ofChange twinFamiliesSpec)) twinFamiliesCard

/-- THE TIED CARD OF 'panachelaw09.TwinCopied'. -/
def twinCopiedCard : Claim7 := { stood := { row := twinCopiedRow, standIns := [], harness := (true, "8e6f3f19bb83bb0fee4edaa771ab3f31b5ec49527567e22ae21790816c50cb9b"), looks := false }, kinds := [], alts := [], laidByText := true, laidKinds := [.data], laidTests := true, laidLooks := .later }
def TwinCopiedCardSaid : Prop := Claim7.holds Tryd.pinned (.plain (OpenSpec.ofChange twinCopiedSpec)) twinCopiedCard

/-- THE SECOND FORM's CARD OF 'panachelaw09.TwinPatterns'. -/
def twinPatternsUptoCard : Claim7 := { stood := { row := twinPatternsUptoRow, standIns := [], harness := (true, "8e6f3f19bb83bb0fee4edaa771ab3f31b5ec49527567e22ae21790816c50cb9b"), looks := false }, kinds := [], alts := [], laidByText := true, laidKinds := [.data], laidTests := true, laidLooks := .later }
def TwinPatternsUptoCardSaid : Prop := Claim7.holds Tryd.pinned (.plain (OpenSpec.upto twinPatternsSpec)) twinPatternsUptoCard

/-- THE SECOND FORM's CARD OF 'panachelaw09.TwinTwins'. -/
def twinTwinsUptoCard : Claim7 := { stood := { row := twinTwinsUptoRow, standIns := [], harness := (true, "8e6f3f19bb83bb0fee4edaa771ab3f31b5ec49527567e22ae21790816c50cb9b"), looks := false }, kinds := [], alts := [], laidByText := true, laidKinds := [.data], laidTests := true, laidLooks := .later }
def TwinTwinsUptoCardSaid : Prop := Claim7.holds Tryd.pinned (.plain (OpenSpec.upto twinTwinsSpec)) twinTwinsUptoCard

/-- THE SECOND FORM's CARD OF 'panachelaw09.TwinWrongs'. -/
def twinWrongsUptoCard : Claim7 := { stood := { row := twinWrongsUptoRow, standIns := [], harness := (true, "8e6f3f19bb83bb0fee4edaa771ab3f31b5ec49527567e22ae21790816c50cb9b"), looks := false }, kinds := [], alts := [], laidByText := true, laidKinds := [.data], laidTests := true, laidLooks := .later }
def TwinWrongsUptoCardSaid : Prop := Claim7.holds Tryd.pinned (.plain (OpenSpec.upto twinWrongsSpec)) twinWrongsUptoCard

/-- THE SECOND FORM's CARD OF 'panachelaw09.TwinTruths'. -/
def twinTruthsUptoCard : Claim7 := { stood := { row := twinTruthsUptoRow, standIns := [], harness := (true, "8e6f3f19bb83bb0fee4edaa771ab3f31b5ec49527567e22ae21790816c50cb9b"), looks := false }, kinds := [], alts := [], laidByText := true, laidKinds := [.data], laidTests := true, laidLooks := .later }
def TwinTruthsUptoCardSaid : Prop := Claim7.holds Tryd.pinned (.plain (OpenSpec.upto twinTruthsSpec)) twinTruthsUptoCard

/-- THE SECOND FORM's CARD OF 'panachelaw09.TwinBlames'. -/
def twinBlamesUptoCard : Claim7 := { stood := { row := twinBlamesUptoRow, standIns := [], harness := (true, "8e6f3f19bb83bb0fee4edaa771ab3f31b5ec49527567e22ae21790816c50cb9b"), looks := false }, kinds := [], alts := [], laidByText := true, laidKinds := [.data], laidTests := true, laidLooks := .later }
def TwinBlamesUptoCardSaid : Prop := Claim7.holds Tryd.pinned (.plain (OpenSpec.upto twinBlamesSpec)) twinBlamesUptoCard

/-- THE SECOND FORM's CARD OF 'panachelaw09.TwinLooks'. -/
def twinLooksUptoCard : Claim7 := { stood := { row := twinLooksUptoRow, standIns := [], harness := (true, "8e6f3f19bb83bb0fee4edaa771ab3f31b5ec49527567e22ae21790816c50cb9b"), looks := false }, kinds := [], alts := [], laidByText := true, laidKinds := [.data], laidTests := true, laidLooks := .later }
def TwinLooksUptoCardSaid : Prop := Claim7.holds Tryd.pinned (.plain (OpenSpec.upto twinLooksSpec)) twinLooksUptoCard

/-- THE SECOND FORM's CARD OF 'panachelaw09.TwinMade'. -/
def twinMadeUptoCard : Claim7 := { stood := { row := twinMadeUptoRow, standIns := [], harness := (true, "8e6f3f19bb83bb0fee4edaa771ab3f31b5ec49527567e22ae21790816c50cb9b"), looks := false }, kinds := [], alts := [], laidByText := true, laidKinds := [.data], laidTests := true, laidLooks := .later }
def TwinMadeUptoCardSaid : Prop := Claim7.holds Tryd.pinned (.plain (OpenSpec.upto twinMadeSpec)) twinMadeUptoCard

/-- THE SECOND FORM's CARD OF 'panachelaw09.TwinSlips'. -/
def twinSlipsUptoCard : Claim7 := { stood := { row := twinSlipsUptoRow, standIns := [], harness := (true, "8e6f3f19bb83bb0fee4edaa771ab3f31b5ec49527567e22ae21790816c50cb9b"), looks := false }, kinds := [], alts := [], laidByText := true, laidKinds := [.data], laidTests := true, laidLooks := .later }
def TwinSlipsUptoCardSaid : Prop := Claim7.holds Tryd.pinned (.plain (OpenSpec.upto twinSlipsSpec)) twinSlipsUptoCard

/-- THE SECOND FORM's CARD OF 'panachelaw09.TwinBlamed'. -/
def twinBlamedUptoCard : Claim7 := { stood := { row := twinBlamedUptoRow, standIns := [], harness := (true, "8e6f3f19bb83bb0fee4edaa771ab3f31b5ec49527567e22ae21790816c50cb9b"), looks := false }, kinds := [], alts := [], laidByText := true, laidKinds := [.data], laidTests := true, laidLooks := .later }
def TwinBlamedUptoCardSaid : Prop := Claim7.holds Tryd.pinned (.plain (OpenSpec.upto twinBlamedSpec)) twinBlamedUptoCard

/-- THE SECOND FORM's CARD OF 'panachelaw09.TwinBetter'. -/
def twinBetterUptoCard : Claim7 := { stood := { row := twinBetterUptoRow, standIns := [], harness := (true, "8e6f3f19bb83bb0fee4edaa771ab3f31b5ec49527567e22ae21790816c50cb9b"), looks := false }, kinds := [], alts := [], laidByText := true, laidKinds := [.data], laidTests := true, laidLooks := .later }
def TwinBetterUptoCardSaid : Prop := Claim7.holds Tryd.pinned (.plain (OpenSpec.upto twinBetterSpec)) twinBetterUptoCard

/-- THE SECOND FORM's CARD OF 'panachelaw09.TwinAnew'. -/
def twinAnewUptoCard : Claim7 := { stood := { row := twinAnewUptoRow, standIns := [], harness := (true, "8e6f3f19bb83bb0fee4edaa771ab3f31b5ec49527567e22ae21790816c50cb9b"), looks := false }, kinds := [], alts := [], laidByText := true, laidKinds := [.data], laidTests := true, laidLooks := .later }
def TwinAnewUptoCardSaid : Prop := Claim7.holds Tryd.pinned (.plain (OpenSpec.upto twinAnewSpec)) twinAnewUptoCard

/-- THE SECOND FORM's CARD OF 'panachelaw09.TwinCopies'. -/
def twinCopiesUptoCard : Claim7 := { stood := { row := twinCopiesUptoRow, standIns := [], harness := (true, "8e6f3f19bb83bb0fee4edaa771ab3f31b5ec49527567e22ae21790816c50cb9b"), looks := false }, kinds := [], alts := [], laidByText := true, laidKinds := [.data], laidTests := true, laidLooks := .later }
def TwinCopiesUptoCardSaid : Prop := Claim7.holds Tryd.pinned (.plain (OpenSpec.upto twinCopiesSpec)) twinCopiesUptoCard

/-- THE SECOND FORM's CARD OF 'panachelaw09.TwinFamilies'. -/
def twinFamiliesUptoCard : Claim7 := { stood := { row := twinFamiliesUptoRow, standIns := [], harness := (true, "8e6f3f19bb83bb0fee4edaa771ab3f31b5ec49527567e22ae21790816c50cb9b"), looks := false }, kinds := [], alts := [], laidByText := true, laidKinds := [.data], laidTests := true, laidLooks := .later }
def TwinFamiliesUptoCardSaid : Prop := Claim7.holds Tryd.pinned (.plain (OpenSpec.upto twinFamiliesSpec)) twinFamiliesUptoCard

/-- THE SECOND FORM's CARD OF 'panachelaw09.TwinCopied'. -/
def twinCopiedUptoCard : Claim7 := { stood := { row := twinCopiedUptoRow, standIns := [], harness := (true, "8e6f3f19bb83bb0fee4edaa771ab3f31b5ec49527567e22ae21790816c50cb9b"), looks := false }, kinds := [], alts := [], laidByText := true, laidKinds := [.data], laidTests := true, laidLooks := .later }
def TwinCopiedUptoCardSaid : Prop := Claim7.holds Tryd.pinned (.plain (OpenSpec.upto twinCopiedSpec)) twinCopiedUptoCard
end Rows
end Go.Proofs.YtnhgfmegaoibeaaDoor

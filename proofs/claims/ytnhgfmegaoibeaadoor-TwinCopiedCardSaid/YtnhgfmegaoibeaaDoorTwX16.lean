/- For all arguments the law TwinCopied answers true, and its arguments read behind the call as they read before: the tied card of the row, whose one condition is that the package variable twin.anything holds what the program's text lays. -/
import Derived.Test.YtnhgfmegaoibeaaDoorG09
import Derived.Test.YtnhgfmegaoibeaaDoorCards
import Derived.Test.YtnhgfmegaoibeaaDoorTie
set_option linter.unusedSimpArgs false
set_option linter.unusedVariables false
set_option maxRecDepth 100000
namespace Go.Proofs.YtnhgfmegaoibeaaDoor
open Go Go.Proofs.Tw
theorem twinCopied_card : Rows.TwinCopiedCardSaid :=
  Claim7.holds_tied_plain_at .later [] [.data] true (true, "8e6f3f19bb83bb0fee4edaa771ab3f31b5ec49527567e22ae21790816c50cb9b") false
    (holds16 ok16) (fun _ h => by cases h) (by kernel_rfl) (fun _ h => by cases h) twinCopied_row_tie rfl ⟨rfl, rfl⟩ (by kernel_rfl) rfl
    (fun f fn hf hfn => by
      obtain rfl : f = 16 := Option.some.inj ((show Tryd.prog.funcNamed "panache/panachelaw09.TwinCopied" = some 16 by kernel_rfl).symm.trans hf) |>.symm
      obtain rfl : fn = Tryd.f16 := (Option.some.inj (Tryd.func16.symm.trans hfn)).symm
      exact ⟨by kernel_rfl, fun j t ht => by
        rw [Tryd.params16] at ht
        have h3 : t = 71 := by
          rcases j with _ | j
          · exact (by simpa using ht.symm)
          · simp at ht
        rcases h3 with rfl
        · exact (show Tryd.prog.wantsStandIn 71 = false by kernel_rfl)⟩)
    (by kernel_rfl)
end Go.Proofs.YtnhgfmegaoibeaaDoor

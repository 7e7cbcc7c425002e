/-
  NARROWER THAN 'FOR EVERY INPUT', by the rows' own cells (each row's printed sentence says how): TwinPatterns: laid · TwinTwins: laid · TwinWrongs: laid · TwinTruths: laid · TwinBlames: laid · TwinLooks: laid · TwinMade: laid · TwinSlips: laid · TwinBlamed: laid · TwinBetter: laid · TwinAnew: laid · TwinCopies: laid · TwinFamilies: laid · TwinCopied: laid.
  DERIVED. THE GIVEN ROWS OF THIS SEAT. 14 by the template 'for every input the law returns true; each argument reads behind the call as it read before'; 0 by the template 'total and deterministic' (their statements: YtnhgfmegaoibeaaDoorTotals.lean).
  GIVEN WITH THE SEED: the statements are not yours to turn. If you find one false, say at which input.
  Laid BY PROGRAM, IN A SANDBOX (cutbox-rows.mjs): the forced cells as the released guide's own fill.sh prints them over the translation de62006439a787de… (all of the seat's roots in one cut). By AI agents, Wed Nov 11 2026. No macro, syntax, notation, axiom, sorry.
-/
import Derived.Test.YtnhgfmegaoibeaaDoorChecked
import GoSem.Claim
import GoSem.ClaimJoined
import GoSem.ClaimMapViews
import Derived.JoinedTies
import Derived.KernelRfl
namespace Go.Proofs.YtnhgfmegaoibeaaDoor
/- THE CELL 'sum', in the pinned program and in every row, IS THE sha256 OF THE DUMP (.gsa) THAT YtnhgfmegaoibeaaDoorProg.lean LOADS. Nothing in Lean hashes anything: it is a label: what it is worth is what the hold of that sum in a sandbox is worth. -/
noncomputable def Tryd.pinned : Pinned := { name := "ytnhgfmegaoibeaadoor", sum := "de62006439a787de12f1c8f7a7b33cd36881040fe8e61a6ee39baf55629f550d", checked := Tryd.checked }
namespace Rows
def none {H : Type} : Left H := { results := [], args := [] }

/- WHAT THE LISTED PACKAGE-LEVEL VARIABLES READ AS WHEN THE CALL BEGINS. Each datum BY PROGRAM (the guide's laid-datum.mjs) off the statement by which the dump's own 'gosem.cut.vars' lays the variable. In a bare row this is a premise. The card (YtnhgfmegaoibeaaDoorCards.lean) ties it to the program's text. -/
def laid_panache_twin_anything {H : Type} : DataW H := .agg [.lit (.int .i64 (-1048576)), .lit (.int .i64 1048576)]

/-- 'panachelaw09.TwinPatterns': WHATEVER THE INPUT: true; the input reads as it did. -/
def twinPatternsSpec : ChangeSpec := { name := "twinPatterns", fn := fun _ => fun
  | [d1, d2] => { results := [.lit (.bool true)], args := [d1, d2] }
  | _ => none }
def twinPatternsRow : OpenClaim := { program := "ytnhgfmegaoibeaadoor", sum := "de62006439a787de12f1c8f7a7b33cd36881040fe8e61a6ee39baf55629f550d", func := "panache/panachelaw09.TwinPatterns", spec := "twinPatterns", unfollowed := true, recurses := true, named := ["panache/twin.anything"], apart := false, laid := [("panache/twin.anything", laid_panache_twin_anything)] }
def TwinPatternsSaid : Prop := twinPatternsRow.holds Tryd.pinned (OpenSpec.ofChange twinPatternsSpec)

/-- ITS FALSE NEIGHBOUR: 'it returns false'. Refute it at one input. -/
def twinPatternsWrong : ChangeSpec := { name := "twinPatterns", fn := fun _ => fun
  | [d1, d2] => { results := [.lit (.bool false)], args := [d1, d2] }
  | _ => none }
def TwinPatternsWrongFalsely : Prop := twinPatternsRow.holds Tryd.pinned (OpenSpec.ofChange twinPatternsWrong)

/-- 'panachelaw09.TwinTwins': WHATEVER THE INPUT: true; the input reads as it did. -/
def twinTwinsSpec : ChangeSpec := { name := "twinTwins", fn := fun _ => fun
  | [d1, d2] => { results := [.lit (.bool true)], args := [d1, d2] }
  | _ => none }
def twinTwinsRow : OpenClaim := { program := "ytnhgfmegaoibeaadoor", sum := "de62006439a787de12f1c8f7a7b33cd36881040fe8e61a6ee39baf55629f550d", func := "panache/panachelaw09.TwinTwins", spec := "twinTwins", unfollowed := true, recurses := true, named := ["panache/twin.anything"], apart := false, laid := [("panache/twin.anything", laid_panache_twin_anything)] }
def TwinTwinsSaid : Prop := twinTwinsRow.holds Tryd.pinned (OpenSpec.ofChange twinTwinsSpec)

/-- ITS FALSE NEIGHBOUR: 'it returns false'. Refute it at one input. -/
def twinTwinsWrong : ChangeSpec := { name := "twinTwins", fn := fun _ => fun
  | [d1, d2] => { results := [.lit (.bool false)], args := [d1, d2] }
  | _ => none }
def TwinTwinsWrongFalsely : Prop := twinTwinsRow.holds Tryd.pinned (OpenSpec.ofChange twinTwinsWrong)

/-- 'panachelaw09.TwinWrongs': WHATEVER THE INPUT: true; the input reads as it did. -/
def twinWrongsSpec : ChangeSpec := { name := "twinWrongs", fn := fun _ => fun
  | [d1, d2] => { results := [.lit (.bool true)], args := [d1, d2] }
  | _ => none }
def twinWrongsRow : OpenClaim := { program := "ytnhgfmegaoibeaadoor", sum := "de62006439a787de12f1c8f7a7b33cd36881040fe8e61a6ee39baf55629f550d", func := "panache/panachelaw09.TwinWrongs", spec := "twinWrongs", unfollowed := true, recurses := true, named := ["panache/twin.anything"], apart := false, laid := [("panache/twin.anything", laid_panache_twin_anything)] }
def TwinWrongsSaid : Prop := twinWrongsRow.holds Tryd.pinned (OpenSpec.ofChange twinWrongsSpec)

/-- ITS FALSE NEIGHBOUR: 'it returns false'. Refute it at one input. -/
def twinWrongsWrong : ChangeSpec := { name := "twinWrongs", fn := fun _ => fun
  | [d1, d2] => { results := [.lit (.bool false)], args := [d1, d2] }
  | _ => none }
def TwinWrongsWrongFalsely : Prop := twinWrongsRow.holds Tryd.pinned (OpenSpec.ofChange twinWrongsWrong)

/-- 'panachelaw09.TwinTruths': WHATEVER THE INPUT: true; the input reads as it did. -/
def twinTruthsSpec : ChangeSpec := { name := "twinTruths", fn := fun _ => fun
  | [d1, d2, d3] => { results := [.lit (.bool true)], args := [d1, d2, d3] }
  | _ => none }
def twinTruthsRow : OpenClaim := { program := "ytnhgfmegaoibeaadoor", sum := "de62006439a787de12f1c8f7a7b33cd36881040fe8e61a6ee39baf55629f550d", func := "panache/panachelaw09.TwinTruths", spec := "twinTruths", unfollowed := true, recurses := true, named := ["panache/twin.anything"], apart := false, laid := [("panache/twin.anything", laid_panache_twin_anything)] }
def TwinTruthsSaid : Prop := twinTruthsRow.holds Tryd.pinned (OpenSpec.ofChange twinTruthsSpec)

/-- ITS FALSE NEIGHBOUR: 'it returns false'. Refute it at one input. -/
def twinTruthsWrong : ChangeSpec := { name := "twinTruths", fn := fun _ => fun
  | [d1, d2, d3] => { results := [.lit (.bool false)], args := [d1, d2, d3] }
  | _ => none }
def TwinTruthsWrongFalsely : Prop := twinTruthsRow.holds Tryd.pinned (OpenSpec.ofChange twinTruthsWrong)

/-- 'panachelaw09.TwinBlames': WHATEVER THE INPUT: true; the input reads as it did. -/
def twinBlamesSpec : ChangeSpec := { name := "twinBlames", fn := fun _ => fun
  | [d1, d2, d3] => { results := [.lit (.bool true)], args := [d1, d2, d3] }
  | _ => none }
def twinBlamesRow : OpenClaim := { program := "ytnhgfmegaoibeaadoor", sum := "de62006439a787de12f1c8f7a7b33cd36881040fe8e61a6ee39baf55629f550d", func := "panache/panachelaw09.TwinBlames", spec := "twinBlames", unfollowed := true, recurses := true, named := ["panache/twin.anything"], apart := false, laid := [("panache/twin.anything", laid_panache_twin_anything)] }
def TwinBlamesSaid : Prop := twinBlamesRow.holds Tryd.pinned (OpenSpec.ofChange twinBlamesSpec)

/-- ITS FALSE NEIGHBOUR: 'it returns false'. Refute it at one input. -/
def twinBlamesWrong : ChangeSpec := { name := "twinBlames", fn := fun _ => fun
  | [d1, d2, d3] => { results := [.lit (.bool false)], args := [d1, d2, d3] }
  | _ => none }
def TwinBlamesWrongFalsely : Prop := twinBlamesRow.holds Tryd.pinned (OpenSpec.ofChange twinBlamesWrong)

/-- 'panachelaw09.TwinLooks': WHATEVER THE INPUT: true; the input reads as it did. -/
def twinLooksSpec : ChangeSpec := { name := "twinLooks", fn := fun _ => fun
  | [d1, d2] => { results := [.lit (.bool true)], args := [d1, d2] }
  | _ => none }
def twinLooksRow : OpenClaim := { program := "ytnhgfmegaoibeaadoor", sum := "de62006439a787de12f1c8f7a7b33cd36881040fe8e61a6ee39baf55629f550d", func := "panache/panachelaw09.TwinLooks", spec := "twinLooks", unfollowed := true, recurses := true, named := ["panache/twin.anything"], apart := false, laid := [("panache/twin.anything", laid_panache_twin_anything)] }
def TwinLooksSaid : Prop := twinLooksRow.holds Tryd.pinned (OpenSpec.ofChange twinLooksSpec)

/-- ITS FALSE NEIGHBOUR: 'it returns false'. Refute it at one input. -/
def twinLooksWrong : ChangeSpec := { name := "twinLooks", fn := fun _ => fun
  | [d1, d2] => { results := [.lit (.bool false)], args := [d1, d2] }
  | _ => none }
def TwinLooksWrongFalsely : Prop := twinLooksRow.holds Tryd.pinned (OpenSpec.ofChange twinLooksWrong)

/-- 'panachelaw09.TwinMade': WHATEVER THE INPUT: true; the input reads as it did. -/
def twinMadeSpec : ChangeSpec := { name := "twinMade", fn := fun _ => fun
  | [d] => { results := [.lit (.bool true)], args := [d] }
  | _ => none }
def twinMadeRow : OpenClaim := { program := "ytnhgfmegaoibeaadoor", sum := "de62006439a787de12f1c8f7a7b33cd36881040fe8e61a6ee39baf55629f550d", func := "panache/panachelaw09.TwinMade", spec := "twinMade", unfollowed := true, recurses := true, named := ["panache/twin.anything"], apart := false, laid := [("panache/twin.anything", laid_panache_twin_anything)] }
def TwinMadeSaid : Prop := twinMadeRow.holds Tryd.pinned (OpenSpec.ofChange twinMadeSpec)

/-- ITS FALSE NEIGHBOUR: 'it returns false'. Refute it at one input. -/
def twinMadeWrong : ChangeSpec := { name := "twinMade", fn := fun _ => fun
  | [d] => { results := [.lit (.bool false)], args := [d] }
  | _ => none }
def TwinMadeWrongFalsely : Prop := twinMadeRow.holds Tryd.pinned (OpenSpec.ofChange twinMadeWrong)

/-- 'panachelaw09.TwinSlips': WHATEVER THE INPUT: true; the input reads as it did. -/
def twinSlipsSpec : ChangeSpec := { name := "twinSlips", fn := fun _ => fun
  | [d1, d2, d3] => { results := [.lit (.bool true)], args := [d1, d2, d3] }
  | _ => none }
def twinSlipsRow : OpenClaim := { program := "ytnhgfmegaoibeaadoor", sum := "de62006439a787de12f1c8f7a7b33cd36881040fe8e61a6ee39baf55629f550d", func := "panache/panachelaw09.TwinSlips", spec := "twinSlips", unfollowed := true, recurses := true, named := ["panache/twin.anything"], apart := false, laid := [("panache/twin.anything", laid_panache_twin_anything)] }
def TwinSlipsSaid : Prop := twinSlipsRow.holds Tryd.pinned (OpenSpec.ofChange twinSlipsSpec)

/-- ITS FALSE NEIGHBOUR: 'it returns false'. Refute it at one input. -/
def twinSlipsWrong : ChangeSpec := { name := "twinSlips", fn := fun _ => fun
  | [d1, d2, d3] => { results := [.lit (.bool false)], args := [d1, d2, d3] }
  | _ => none }
def TwinSlipsWrongFalsely : Prop := twinSlipsRow.holds Tryd.pinned (OpenSpec.ofChange twinSlipsWrong)

/-- 'panachelaw09.TwinBlamed': WHATEVER THE INPUT: true; the input reads as it did. -/
def twinBlamedSpec : ChangeSpec := { name := "twinBlamed", fn := fun _ => fun
  | [d1, d2] => { results := [.lit (.bool true)], args := [d1, d2] }
  | _ => none }
def twinBlamedRow : OpenClaim := { program := "ytnhgfmegaoibeaadoor", sum := "de62006439a787de12f1c8f7a7b33cd36881040fe8e61a6ee39baf55629f550d", func := "panache/panachelaw09.TwinBlamed", spec := "twinBlamed", unfollowed := true, recurses := true, named := ["panache/twin.anything"], apart := false, laid := [("panache/twin.anything", laid_panache_twin_anything)] }
def TwinBlamedSaid : Prop := twinBlamedRow.holds Tryd.pinned (OpenSpec.ofChange twinBlamedSpec)

/-- ITS FALSE NEIGHBOUR: 'it returns false'. Refute it at one input. -/
def twinBlamedWrong : ChangeSpec := { name := "twinBlamed", fn := fun _ => fun
  | [d1, d2] => { results := [.lit (.bool false)], args := [d1, d2] }
  | _ => none }
def TwinBlamedWrongFalsely : Prop := twinBlamedRow.holds Tryd.pinned (OpenSpec.ofChange twinBlamedWrong)

/-- 'panachelaw09.TwinBetter': WHATEVER THE INPUT: true; the input reads as it did. -/
def twinBetterSpec : ChangeSpec := { name := "twinBetter", fn := fun _ => fun
  | [d1, d2, d3] => { results := [.lit (.bool true)], args := [d1, d2, d3] }
  | _ => none }
def twinBetterRow : OpenClaim := { program := "ytnhgfmegaoibeaadoor", sum := "de62006439a787de12f1c8f7a7b33cd36881040fe8e61a6ee39baf55629f550d", func := "panache/panachelaw09.TwinBetter", spec := "twinBetter", unfollowed := true, recurses := true, named := ["panache/twin.anything"], apart := false, laid := [("panache/twin.anything", laid_panache_twin_anything)] }
def TwinBetterSaid : Prop := twinBetterRow.holds Tryd.pinned (OpenSpec.ofChange twinBetterSpec)

/-- ITS FALSE NEIGHBOUR: 'it returns false'. Refute it at one input. -/
def twinBetterWrong : ChangeSpec := { name := "twinBetter", fn := fun _ => fun
  | [d1, d2, d3] => { results := [.lit (.bool false)], args := [d1, d2, d3] }
  | _ => none }
def TwinBetterWrongFalsely : Prop := twinBetterRow.holds Tryd.pinned (OpenSpec.ofChange twinBetterWrong)

/-- 'panachelaw09.TwinAnew': WHATEVER THE INPUT: true; the input reads as it did. -/
def twinAnewSpec : ChangeSpec := { name := "twinAnew", fn := fun _ => fun
  | [d1, d2] => { results := [.lit (.bool true)], args := [d1, d2] }
  | _ => none }
def twinAnewRow : OpenClaim := { program := "ytnhgfmegaoibeaadoor", sum := "de62006439a787de12f1c8f7a7b33cd36881040fe8e61a6ee39baf55629f550d", func := "panache/panachelaw09.TwinAnew", spec := "twinAnew", unfollowed := true, recurses := true, named := ["panache/twin.anything"], apart := false, laid := [("panache/twin.anything", laid_panache_twin_anything)] }
def TwinAnewSaid : Prop := twinAnewRow.holds Tryd.pinned (OpenSpec.ofChange twinAnewSpec)

/-- ITS FALSE NEIGHBOUR: 'it returns false'. Refute it at one input. -/
def twinAnewWrong : ChangeSpec := { name := "twinAnew", fn := fun _ => fun
  | [d1, d2] => { results := [.lit (.bool false)], args := [d1, d2] }
  | _ => none }
def TwinAnewWrongFalsely : Prop := twinAnewRow.holds Tryd.pinned (OpenSpec.ofChange twinAnewWrong)

/-- 'panachelaw09.TwinCopies': WHATEVER THE INPUT: true; the input reads as it did. -/
def twinCopiesSpec : ChangeSpec := { name := "twinCopies", fn := fun _ => fun
  | [d1, d2, d3] => { results := [.lit (.bool true)], args := [d1, d2, d3] }
  | _ => none }
def twinCopiesRow : OpenClaim := { program := "ytnhgfmegaoibeaadoor", sum := "de62006439a787de12f1c8f7a7b33cd36881040fe8e61a6ee39baf55629f550d", func := "panache/panachelaw09.TwinCopies", spec := "twinCopies", unfollowed := true, recurses := true, named := ["panache/twin.anything"], apart := false, laid := [("panache/twin.anything", laid_panache_twin_anything)] }
def TwinCopiesSaid : Prop := twinCopiesRow.holds Tryd.pinned (OpenSpec.ofChange twinCopiesSpec)

/-- ITS FALSE NEIGHBOUR: 'it returns false'. Refute it at one input. -/
def twinCopiesWrong : ChangeSpec := { name := "twinCopies", fn := fun _ => fun
  | [d1, d2, d3] => { results := [.lit (.bool false)], args := [d1, d2, d3] }
  | _ => none }
def TwinCopiesWrongFalsely : Prop := twinCopiesRow.holds Tryd.pinned (OpenSpec.ofChange twinCopiesWrong)

/-- 'panachelaw09.TwinFamilies': WHATEVER THE INPUT: true; the input reads as it did. -/
def twinFamiliesSpec : ChangeSpec := { name := "twinFamilies", fn := fun _ => fun
  | [d1, d2] => { results := [.lit (.bool true)], args := [d1, d2] }
  | _ => none }
def twinFamiliesRow : OpenClaim := { program := "ytnhgfmegaoibeaadoor", sum := "de62006439a787de12f1c8f7a7b33cd36881040fe8e61a6ee39baf55629f550d", func := "panache/panachelaw09.TwinFamilies", spec := "twinFamilies", unfollowed := true, recurses := true, named := ["panache/twin.anything"], apart := false, laid := [("panache/twin.anything", laid_panache_twin_anything)] }
def TwinFamiliesSaid : Prop := twinFamiliesRow.holds Tryd.pinned (OpenSpec.ofChange twinFamiliesSpec)

/-- ITS FALSE NEIGHBOUR: 'it returns false'. Refute it at one input. -/
def twinFamiliesWrong : ChangeSpec := { name := "twinFamilies", fn := fun _ => fun
  | [d1, d2] => { results := [.lit (.bool false)], args := [d1, d2] }
  | _ => none }
def TwinFamiliesWrongFalsely : Prop := twinFamiliesRow.holds Tryd.pinned (OpenSpec.ofChange twinFamiliesWrong)

/-- 'panachelaw09.TwinCopied': WHATEVER THE INPUT: true; the input reads as it did. -/
def twinCopiedSpec : ChangeSpec := { name := "twinCopied", fn := fun _ => fun
  | [d] => { results := [.lit (.bool true)], args := [d] }
  | _ => none }
def twinCopiedRow : OpenClaim := { program := "ytnhgfmegaoibeaadoor", sum := "de62006439a787de12f1c8f7a7b33cd36881040fe8e61a6ee39baf55629f550d", func := "panache/panachelaw09.TwinCopied", spec := "twinCopied", unfollowed := true, recurses := true, named := ["panache/twin.anything"], apart := false, laid := [("panache/twin.anything", laid_panache_twin_anything)] }
def TwinCopiedSaid : Prop := twinCopiedRow.holds Tryd.pinned (OpenSpec.ofChange twinCopiedSpec)

/-- ITS FALSE NEIGHBOUR: 'it returns false'. Refute it at one input. -/
def twinCopiedWrong : ChangeSpec := { name := "twinCopied", fn := fun _ => fun
  | [d] => { results := [.lit (.bool false)], args := [d] }
  | _ => none }
def TwinCopiedWrongFalsely : Prop := twinCopiedRow.holds Tryd.pinned (OpenSpec.ofChange twinCopiedWrong)

/- THE SECOND FORM. 'bulk': how many values and letters a reading holds, each counted each time it is reached (what is shared counts as often as it is met; a slice's spare places count too). A statement '..UptoSaid' is the law's where the arguments, and the package variables that the reading takes, are together of bulk at most 1048576: NARROWER than '..Said'. Prove '..Said' where nothing that the law and all that it calls make is longer than what came in: it says more and counts as full. Else prove '..UptoSaid'. A law counts once. -/
mutual
def uptoBulk {H : Type} : DataW H → Nat
  | .lit (.string bytes) => bytes.length + 1
  | .lit _ => 1
  | .nil => 1
  | .ptr d => uptoBulk d + 1
  | .slice elems spare => uptoBulkAll elems + uptoBulkAll spare + 1
  | .agg parts => uptoBulkAll parts + 1
  | .iface _ d => uptoBulk d + 1
  | .map entries => uptoBulkEntries entries + 1
  | .held _ => 1
def uptoBulkAll {H : Type} : List (DataW H) → Nat
  | [] => 0
  | d :: r => uptoBulk d + uptoBulkAll r
def uptoBulkEntries {H : Type} : List (Lit × DataW H) → Nat
  | [] => 0
  | x :: r => uptoBulkEntry x + uptoBulkEntries r
def uptoBulkEntry {H : Type} : Lit × DataW H → Nat
  | (.string bytes, d) => bytes.length + uptoBulk d + 1
  | (_, d) => uptoBulk d + 1
 end
def uptoSmall : (H : Type) → List (DataW H) → Bool := fun _ ds => decide (uptoBulkAll ds ≤ 1048576)
def OpenSpec.upto (s : _root_.Go.ChangeSpec) : _root_.Go.OpenSpec := { _root_.Go.OpenSpec.ofChange s with cond := some uptoSmall }

/-- 'panachelaw09.TwinPatterns', WHERE WHAT IT READS IS OF BULK AT MOST 1048576: true; the input reads as it did. -/
def twinPatternsUptoRow : OpenClaim := { program := "ytnhgfmegaoibeaadoor", sum := "de62006439a787de12f1c8f7a7b33cd36881040fe8e61a6ee39baf55629f550d", func := "panache/panachelaw09.TwinPatterns", spec := "twinPatterns", unfollowed := true, recurses := true, named := ["panache/twin.anything"], apart := false, laid := [("panache/twin.anything", laid_panache_twin_anything)], narrowed := true }
def TwinPatternsUptoSaid : Prop := twinPatternsUptoRow.holds Tryd.pinned (OpenSpec.upto twinPatternsSpec)

/-- 'panachelaw09.TwinTwins', WHERE WHAT IT READS IS OF BULK AT MOST 1048576: true; the input reads as it did. -/
def twinTwinsUptoRow : OpenClaim := { program := "ytnhgfmegaoibeaadoor", sum := "de62006439a787de12f1c8f7a7b33cd36881040fe8e61a6ee39baf55629f550d", func := "panache/panachelaw09.TwinTwins", spec := "twinTwins", unfollowed := true, recurses := true, named := ["panache/twin.anything"], apart := false, laid := [("panache/twin.anything", laid_panache_twin_anything)], narrowed := true }
def TwinTwinsUptoSaid : Prop := twinTwinsUptoRow.holds Tryd.pinned (OpenSpec.upto twinTwinsSpec)

/-- 'panachelaw09.TwinWrongs', WHERE WHAT IT READS IS OF BULK AT MOST 1048576: true; the input reads as it did. -/
def twinWrongsUptoRow : OpenClaim := { program := "ytnhgfmegaoibeaadoor", sum := "de62006439a787de12f1c8f7a7b33cd36881040fe8e61a6ee39baf55629f550d", func := "panache/panachelaw09.TwinWrongs", spec := "twinWrongs", unfollowed := true, recurses := true, named := ["panache/twin.anything"], apart := false, laid := [("panache/twin.anything", laid_panache_twin_anything)], narrowed := true }
def TwinWrongsUptoSaid : Prop := twinWrongsUptoRow.holds Tryd.pinned (OpenSpec.upto twinWrongsSpec)

/-- 'panachelaw09.TwinTruths', WHERE WHAT IT READS IS OF BULK AT MOST 1048576: true; the input reads as it did. -/
def twinTruthsUptoRow : OpenClaim := { program := "ytnhgfmegaoibeaadoor", sum := "de62006439a787de12f1c8f7a7b33cd36881040fe8e61a6ee39baf55629f550d", func := "panache/panachelaw09.TwinTruths", spec := "twinTruths", unfollowed := true, recurses := true, named := ["panache/twin.anything"], apart := false, laid := [("panache/twin.anything", laid_panache_twin_anything)], narrowed := true }
def TwinTruthsUptoSaid : Prop := twinTruthsUptoRow.holds Tryd.pinned (OpenSpec.upto twinTruthsSpec)

/-- 'panachelaw09.TwinBlames', WHERE WHAT IT READS IS OF BULK AT MOST 1048576: true; the input reads as it did. -/
def twinBlamesUptoRow : OpenClaim := { program := "ytnhgfmegaoibeaadoor", sum := "de62006439a787de12f1c8f7a7b33cd36881040fe8e61a6ee39baf55629f550d", func := "panache/panachelaw09.TwinBlames", spec := "twinBlames", unfollowed := true, recurses := true, named := ["panache/twin.anything"], apart := false, laid := [("panache/twin.anything", laid_panache_twin_anything)], narrowed := true }
def TwinBlamesUptoSaid : Prop := twinBlamesUptoRow.holds Tryd.pinned (OpenSpec.upto twinBlamesSpec)

/-- 'panachelaw09.TwinLooks', WHERE WHAT IT READS IS OF BULK AT MOST 1048576: true; the input reads as it did. -/
def twinLooksUptoRow : OpenClaim := { program := "ytnhgfmegaoibeaadoor", sum := "de62006439a787de12f1c8f7a7b33cd36881040fe8e61a6ee39baf55629f550d", func := "panache/panachelaw09.TwinLooks", spec := "twinLooks", unfollowed := true, recurses := true, named := ["panache/twin.anything"], apart := false, laid := [("panache/twin.anything", laid_panache_twin_anything)], narrowed := true }
def TwinLooksUptoSaid : Prop := twinLooksUptoRow.holds Tryd.pinned (OpenSpec.upto twinLooksSpec)

/-- 'panachelaw09.TwinMade', WHERE WHAT IT READS IS OF BULK AT MOST 1048576: true; the input reads as it did. -/
def twinMadeUptoRow : OpenClaim := { program := "ytnhgfmegaoibeaadoor", sum := "de62006439a787de12f1c8f7a7b33cd36881040fe8e61a6ee39baf55629f550d", func := "panache/panachelaw09.TwinMade", spec := "twinMade", unfollowed := true, recurses := true, named := ["panache/twin.anything"], apart := false, laid := [("panache/twin.anything", laid_panache_twin_anything)], narrowed := true }
def TwinMadeUptoSaid : Prop := twinMadeUptoRow.holds Tryd.pinned (OpenSpec.upto twinMadeSpec)

/-- 'panachelaw09.TwinSlips', WHERE WHAT IT READS IS OF BULK AT MOST 1048576: true; the input reads as it did. -/
def twinSlipsUptoRow : OpenClaim := { program := "ytnhgfmegaoibeaadoor", sum := "de62006439a787de12f1c8f7a7b33cd36881040fe8e61a6ee39baf55629f550d", func := "panache/panachelaw09.TwinSlips", spec := "twinSlips", unfollowed := true, recurses := true, named := ["panache/twin.anything"], apart := false, laid := [("panache/twin.anything", laid_panache_twin_anything)], narrowed := true }
def TwinSlipsUptoSaid : Prop := twinSlipsUptoRow.holds Tryd.pinned (OpenSpec.upto twinSlipsSpec)

/-- 'panachelaw09.TwinBlamed', WHERE WHAT IT READS IS OF BULK AT MOST 1048576: true; the input reads as it did. -/
def twinBlamedUptoRow : OpenClaim := { program := "ytnhgfmegaoibeaadoor", sum := "de62006439a787de12f1c8f7a7b33cd36881040fe8e61a6ee39baf55629f550d", func := "panache/panachelaw09.TwinBlamed", spec := "twinBlamed", unfollowed := true, recurses := true, named := ["panache/twin.anything"], apart := false, laid := [("panache/twin.anything", laid_panache_twin_anything)], narrowed := true }
def TwinBlamedUptoSaid : Prop := twinBlamedUptoRow.holds Tryd.pinned (OpenSpec.upto twinBlamedSpec)

/-- 'panachelaw09.TwinBetter', WHERE WHAT IT READS IS OF BULK AT MOST 1048576: true; the input reads as it did. -/
def twinBetterUptoRow : OpenClaim := { program := "ytnhgfmegaoibeaadoor", sum := "de62006439a787de12f1c8f7a7b33cd36881040fe8e61a6ee39baf55629f550d", func := "panache/panachelaw09.TwinBetter", spec := "twinBetter", unfollowed := true, recurses := true, named := ["panache/twin.anything"], apart := false, laid := [("panache/twin.anything", laid_panache_twin_anything)], narrowed := true }
def TwinBetterUptoSaid : Prop := twinBetterUptoRow.holds Tryd.pinned (OpenSpec.upto twinBetterSpec)

/-- 'panachelaw09.TwinAnew', WHERE WHAT IT READS IS OF BULK AT MOST 1048576: true; the input reads as it did. -/
def twinAnewUptoRow : OpenClaim := { program := "ytnhgfmegaoibeaadoor", sum := "de62006439a787de12f1c8f7a7b33cd36881040fe8e61a6ee39baf55629f550d", func := "panache/panachelaw09.TwinAnew", spec := "twinAnew", unfollowed := true, recurses := true, named := ["panache/twin.anything"], apart := false, laid := [("panache/twin.anything", laid_panache_twin_anything)], narrowed := true }
def TwinAnewUptoSaid : Prop := twinAnewUptoRow.holds Tryd.pinned (OpenSpec.upto twinAnewSpec)

/-- 'panachelaw09.TwinCopies', WHERE WHAT IT READS IS OF BULK AT MOST 1048576: true; the input reads as it did. -/
def twinCopiesUptoRow : OpenClaim := { program := "ytnhgfmegaoibeaadoor", sum := "de62006439a787de12f1c8f7a7b33cd36881040fe8e61a6ee39baf55629f550d", func := "panache/panachelaw09.TwinCopies", spec := "twinCopies", unfollowed := true, recurses := true, named := ["panache/twin.anything"], apart := false, laid := [("panache/twin.anything", laid_panache_twin_anything)], narrowed := true }
def TwinCopiesUptoSaid : Prop := twinCopiesUptoRow.holds Tryd.pinned (OpenSpec.upto twinCopiesSpec)

/-- 'panachelaw09.TwinFamilies', WHERE WHAT IT READS IS OF BULK AT MOST 1048576: true; the input reads as it did. -/
def twinFamiliesUptoRow : OpenClaim := { program := "ytnhgfmegaoibeaadoor", sum := "de62006439a787de12f1c8f7a7b33cd36881040fe8e61a6ee39baf55629f550d", func := "panache/panachelaw09.TwinFamilies", spec := "twinFamilies", unfollowed := true, recurses := true, named := ["panache/twin.anything"], apart := false, laid := [("panache/twin.anything", laid_panache_twin_anything)], narrowed := true }
def TwinFamiliesUptoSaid : Prop := twinFamiliesUptoRow.holds Tryd.pinned (OpenSpec.upto twinFamiliesSpec)

/-- 'panachelaw09.TwinCopied', WHERE WHAT IT READS IS OF BULK AT MOST 1048576: true; the input reads as it did. -/
def twinCopiedUptoRow : OpenClaim := { program := "ytnhgfmegaoibeaadoor", sum := "de62006439a787de12f1c8f7a7b33cd36881040fe8e61a6ee39baf55629f550d", func := "panache/panachelaw09.TwinCopied", spec := "twinCopied", unfollowed := true, recurses := true, named := ["panache/twin.anything"], apart := false, laid := [("panache/twin.anything", laid_panache_twin_anything)], narrowed := true }
def TwinCopiedUptoSaid : Prop := twinCopiedUptoRow.holds Tryd.pinned (OpenSpec.upto twinCopiedSpec)

end Rows
end Go.Proofs.YtnhgfmegaoibeaaDoor

/-
  No cell of these rows narrows 'for every input' (looked for: loops, veiled, ifaces, maps, wideKeys, modest, calm, conditions, laid).
  DERIVED. THE GIVEN ROWS OF THIS SEAT. 4 by the template 'for every input the law returns true; each argument reads behind the call as it read before'; 0 by the template 'total and deterministic' (their statements: YtgcgakefjfhnkaaTotals.lean).
  GIVEN WITH THE SEED: the statements are not yours to turn. If you find one false, say at which input.
  Laid BY PROGRAM, IN A SANDBOX (cutbox-rows.mjs): the forced cells as the released guide's own fill.sh prints them over the translation 2b5a0cf38b4704cd… (all of the seat's roots in one cut). By AI agents, Wed Nov 11 2026. No macro, syntax, notation, axiom, sorry.
-/
import Derived.Test.YtgcgakefjfhnkaaChecked
import GoSem.Claim
import GoSem.ClaimJoined
import GoSem.ClaimMapViews
import Derived.JoinedTies
import Derived.KernelRfl
namespace Go.Proofs.Ytgcgakefjfhnkaa
/- THE CELL 'sum', in the pinned program and in every row, IS THE sha256 OF THE DUMP (.gsa) THAT YtgcgakefjfhnkaaProg.lean LOADS. Nothing in Lean hashes anything: it is a label: what it is worth is what the hold of that sum in a sandbox is worth. -/
noncomputable def Try.pinned : Pinned := { name := "ytgcgakefjfhnkaa", sum := "2b5a0cf38b4704cdc2a645fdfc1f18c1014dabaa558296e9c6517772978b6808", checked := Try.checked }
namespace Rows
def none {H : Type} : Left H := { results := [], args := [] }

/-- 'panachetop.TopRivetPair': WHATEVER THE INPUT: true; the input reads as it did. -/
def topRivetPairSpec : ChangeSpec := { name := "topRivetPair", fn := fun _ => fun
  | [d1, d2] => { results := [.lit (.bool true)], args := [d1, d2] }
  | _ => none }
def topRivetPairRow : OpenClaim := { program := "ytgcgakefjfhnkaa", sum := "2b5a0cf38b4704cdc2a645fdfc1f18c1014dabaa558296e9c6517772978b6808", func := "panache/panachetop.TopRivetPair", spec := "topRivetPair", unfollowed := true, recurses := true, apart := false }
def TopRivetPairSaid : Prop := topRivetPairRow.holds Try.pinned (OpenSpec.ofChange topRivetPairSpec)

/-- ITS FALSE NEIGHBOUR: 'it returns false'. Refute it at one input. -/
def topRivetPairWrong : ChangeSpec := { name := "topRivetPair", fn := fun _ => fun
  | [d1, d2] => { results := [.lit (.bool false)], args := [d1, d2] }
  | _ => none }
def TopRivetPairWrongFalsely : Prop := topRivetPairRow.holds Try.pinned (OpenSpec.ofChange topRivetPairWrong)

/-- 'panachetop.TopBoxSticks': WHATEVER THE INPUT: true; the input reads as it did. -/
def topBoxSticksSpec : ChangeSpec := { name := "topBoxSticks", fn := fun _ => fun
  | [d1, d2] => { results := [.lit (.bool true)], args := [d1, d2] }
  | _ => none }
def topBoxSticksRow : OpenClaim := { program := "ytgcgakefjfhnkaa", sum := "2b5a0cf38b4704cdc2a645fdfc1f18c1014dabaa558296e9c6517772978b6808", func := "panache/panachetop.TopBoxSticks", spec := "topBoxSticks", unfollowed := true, recurses := true, apart := false }
def TopBoxSticksSaid : Prop := topBoxSticksRow.holds Try.pinned (OpenSpec.ofChange topBoxSticksSpec)

/-- ITS FALSE NEIGHBOUR: 'it returns false'. Refute it at one input. -/
def topBoxSticksWrong : ChangeSpec := { name := "topBoxSticks", fn := fun _ => fun
  | [d1, d2] => { results := [.lit (.bool false)], args := [d1, d2] }
  | _ => none }
def TopBoxSticksWrongFalsely : Prop := topBoxSticksRow.holds Try.pinned (OpenSpec.ofChange topBoxSticksWrong)

/-- 'panachetop.TopSawnLoss': WHATEVER THE INPUT: true; the input reads as it did. -/
def topSawnLossSpec : ChangeSpec := { name := "topSawnLoss", fn := fun _ => fun
  | [d1, d2] => { results := [.lit (.bool true)], args := [d1, d2] }
  | _ => none }
def topSawnLossRow : OpenClaim := { program := "ytgcgakefjfhnkaa", sum := "2b5a0cf38b4704cdc2a645fdfc1f18c1014dabaa558296e9c6517772978b6808", func := "panache/panachetop.TopSawnLoss", spec := "topSawnLoss", unfollowed := true, recurses := true, apart := false }
def TopSawnLossSaid : Prop := topSawnLossRow.holds Try.pinned (OpenSpec.ofChange topSawnLossSpec)

/-- ITS FALSE NEIGHBOUR: 'it returns false'. Refute it at one input. -/
def topSawnLossWrong : ChangeSpec := { name := "topSawnLoss", fn := fun _ => fun
  | [d1, d2] => { results := [.lit (.bool false)], args := [d1, d2] }
  | _ => none }
def TopSawnLossWrongFalsely : Prop := topSawnLossRow.holds Try.pinned (OpenSpec.ofChange topSawnLossWrong)

/-- 'panachetop.TopNarrow': WHATEVER THE INPUT: true; the input reads as it did. -/
def topNarrowSpec : ChangeSpec := { name := "topNarrow", fn := fun _ => fun
  | [d1, d2] => { results := [.lit (.bool true)], args := [d1, d2] }
  | _ => none }
def topNarrowRow : OpenClaim := { program := "ytgcgakefjfhnkaa", sum := "2b5a0cf38b4704cdc2a645fdfc1f18c1014dabaa558296e9c6517772978b6808", func := "panache/panachetop.TopNarrow", spec := "topNarrow", unfollowed := true, recurses := true, apart := false }
def TopNarrowSaid : Prop := topNarrowRow.holds Try.pinned (OpenSpec.ofChange topNarrowSpec)

/-- ITS FALSE NEIGHBOUR: 'it returns false'. Refute it at one input. -/
def topNarrowWrong : ChangeSpec := { name := "topNarrow", fn := fun _ => fun
  | [d1, d2] => { results := [.lit (.bool false)], args := [d1, d2] }
  | _ => none }
def TopNarrowWrongFalsely : Prop := topNarrowRow.holds Try.pinned (OpenSpec.ofChange topNarrowWrong)

/- THE SECOND FORM. 'bulk': how many values and letters a reading holds, each counted each time it is reached (what is shared counts as often as it is met; a slice's spare places count too). A statement '..UptoSaid' is the law's where the arguments, and the package variables that the reading takes, are together of bulk at most 1048576: NARROWER than '..Said'. Prove '..Said' where nothing that the law and all that it calls make is longer than what came in: it says more and counts as full. Else prove '..UptoSaid'. A law counts once. -/
mutual
def uptoBulk {H : Type} : DataW H → Nat
  | .lit (.string bytes) => bytes.length + 1
  | .lit _ => 1
  | .nil => 1
  | .ptr d => uptoBulk d + 1
  | .slice elems spare => uptoBulkAll elems + uptoBulkAll spare + 1
  | .agg parts => uptoBulkAll parts + 1
  | .iface _ d => uptoBulk d + 1
  | .map entries => uptoBulkEntries entries + 1
  | .held _ => 1
def uptoBulkAll {H : Type} : List (DataW H) → Nat
  | [] => 0
  | d :: r => uptoBulk d + uptoBulkAll r
def uptoBulkEntries {H : Type} : List (Lit × DataW H) → Nat
  | [] => 0
  | x :: r => uptoBulkEntry x + uptoBulkEntries r
def uptoBulkEntry {H : Type} : Lit × DataW H → Nat
  | (.string bytes, d) => bytes.length + uptoBulk d + 1
  | (_, d) => uptoBulk d + 1
 end
def uptoSmall : (H : Type) → List (DataW H) → Bool := fun _ ds => decide (uptoBulkAll ds ≤ 1048576)
def OpenSpec.upto (s : _root_.Go.ChangeSpec) : _root_.Go.OpenSpec := { _root_.Go.OpenSpec.ofChange s with cond := some uptoSmall }

/-- 'panachetop.TopRivetPair', WHERE WHAT IT READS IS OF BULK AT MOST 1048576: true; the input reads as it did. -/
def topRivetPairUptoRow : OpenClaim := { program := "ytgcgakefjfhnkaa", sum := "2b5a0cf38b4704cdc2a645fdfc1f18c1014dabaa558296e9c6517772978b6808", func := "panache/panachetop.TopRivetPair", spec := "topRivetPair", unfollowed := true, recurses := true, apart := false, narrowed := true }
def TopRivetPairUptoSaid : Prop := topRivetPairUptoRow.holds Try.pinned (OpenSpec.upto topRivetPairSpec)

/-- 'panachetop.TopBoxSticks', WHERE WHAT IT READS IS OF BULK AT MOST 1048576: true; the input reads as it did. -/
def topBoxSticksUptoRow : OpenClaim := { program := "ytgcgakefjfhnkaa", sum := "2b5a0cf38b4704cdc2a645fdfc1f18c1014dabaa558296e9c6517772978b6808", func := "panache/panachetop.TopBoxSticks", spec := "topBoxSticks", unfollowed := true, recurses := true, apart := false, narrowed := true }
def TopBoxSticksUptoSaid : Prop := topBoxSticksUptoRow.holds Try.pinned (OpenSpec.upto topBoxSticksSpec)

/-- 'panachetop.TopSawnLoss', WHERE WHAT IT READS IS OF BULK AT MOST 1048576: true; the input reads as it did. -/
def topSawnLossUptoRow : OpenClaim := { program := "ytgcgakefjfhnkaa", sum := "2b5a0cf38b4704cdc2a645fdfc1f18c1014dabaa558296e9c6517772978b6808", func := "panache/panachetop.TopSawnLoss", spec := "topSawnLoss", unfollowed := true, recurses := true, apart := false, narrowed := true }
def TopSawnLossUptoSaid : Prop := topSawnLossUptoRow.holds Try.pinned (OpenSpec.upto topSawnLossSpec)

/-- 'panachetop.TopNarrow', WHERE WHAT IT READS IS OF BULK AT MOST 1048576: true; the input reads as it did. -/
def topNarrowUptoRow : OpenClaim := { program := "ytgcgakefjfhnkaa", sum := "2b5a0cf38b4704cdc2a645fdfc1f18c1014dabaa558296e9c6517772978b6808", func := "panache/panachetop.TopNarrow", spec := "topNarrow", unfollowed := true, recurses := true, apart := false, narrowed := true }
def TopNarrowUptoSaid : Prop := topNarrowUptoRow.holds Try.pinned (OpenSpec.upto topNarrowSpec)

end Rows
end Go.Proofs.Ytgcgakefjfhnkaa

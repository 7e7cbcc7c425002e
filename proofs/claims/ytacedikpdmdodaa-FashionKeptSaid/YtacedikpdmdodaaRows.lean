/-
  No cell of these rows narrows 'for every input' (looked for: loops, veiled, ifaces, maps, wideKeys, modest, calm, conditions, laid).
  DERIVED. THE GIVEN ROWS OF THIS SEAT. 13 by the template 'for every input the law returns true; each argument reads behind the call as it read before'; 0 by the template 'total and deterministic' (their statements: YtacedikpdmdodaaTotals.lean).
  GIVEN WITH THE SEED: the statements are not yours to turn. If you find one false, say at which input.
  Laid BY PROGRAM, IN A SANDBOX (cutbox-rows.mjs): the forced cells as the released guide's own fill.sh prints them over the translation 3a0f2beac4fdb7f6… (all of the seat's roots in one cut). By AI agents, Wed Nov 11 2026. No macro, syntax, notation, axiom, sorry.
-/
import Derived.Test.YtacedikpdmdodaaChecked
import GoSem.Claim
import GoSem.ClaimJoined
import GoSem.ClaimMapViews
import Derived.JoinedTies
import Derived.KernelRfl
namespace Go.Proofs.Ytacedikpdmdodaa
/- THE CELL 'sum', in the pinned program and in every row, IS THE sha256 OF THE DUMP (.gsa) THAT YtacedikpdmdodaaProg.lean LOADS. Nothing in Lean hashes anything: it is a label: what it is worth is what the hold of that sum in a sandbox is worth. -/
noncomputable def Try.pinned : Pinned := { name := "ytacedikpdmdodaa", sum := "3a0f2beac4fdb7f6718866fe62aa1e0bbadc5e267203dd99884290e53178e6da", checked := Try.checked }
namespace Rows
def none {H : Type} : Left H := { results := [], args := [] }

/-- 'panachelaw11.FashionLeaves': WHATEVER THE INPUT: true; the input reads as it did. -/
def fashionLeavesSpec : ChangeSpec := { name := "fashionLeaves", fn := fun _ => fun
  | [d1, d2] => { results := [.lit (.bool true)], args := [d1, d2] }
  | _ => none }
def fashionLeavesRow : OpenClaim := { program := "ytacedikpdmdodaa", sum := "3a0f2beac4fdb7f6718866fe62aa1e0bbadc5e267203dd99884290e53178e6da", func := "panache/panachelaw11.FashionLeaves", spec := "fashionLeaves", unfollowed := true, recurses := true, plainKeys := false, apart := false }
def FashionLeavesSaid : Prop := fashionLeavesRow.holds Try.pinned (OpenSpec.ofChange fashionLeavesSpec)

/-- ITS FALSE NEIGHBOUR: 'it returns false'. Refute it at one input. -/
def fashionLeavesWrong : ChangeSpec := { name := "fashionLeaves", fn := fun _ => fun
  | [d1, d2] => { results := [.lit (.bool false)], args := [d1, d2] }
  | _ => none }
def FashionLeavesWrongFalsely : Prop := fashionLeavesRow.holds Try.pinned (OpenSpec.ofChange fashionLeavesWrong)

/-- 'panachelaw11.FashionLots': WHATEVER THE INPUT: true; the input reads as it did. -/
def fashionLotsSpec : ChangeSpec := { name := "fashionLots", fn := fun _ => fun
  | [d1, d2] => { results := [.lit (.bool true)], args := [d1, d2] }
  | _ => none }
def fashionLotsRow : OpenClaim := { program := "ytacedikpdmdodaa", sum := "3a0f2beac4fdb7f6718866fe62aa1e0bbadc5e267203dd99884290e53178e6da", func := "panache/panachelaw11.FashionLots", spec := "fashionLots", unfollowed := true, recurses := true, plainKeys := false, apart := false }
def FashionLotsSaid : Prop := fashionLotsRow.holds Try.pinned (OpenSpec.ofChange fashionLotsSpec)

/-- ITS FALSE NEIGHBOUR: 'it returns false'. Refute it at one input. -/
def fashionLotsWrong : ChangeSpec := { name := "fashionLots", fn := fun _ => fun
  | [d1, d2] => { results := [.lit (.bool false)], args := [d1, d2] }
  | _ => none }
def FashionLotsWrongFalsely : Prop := fashionLotsRow.holds Try.pinned (OpenSpec.ofChange fashionLotsWrong)

/-- 'panachelaw11.FashionNews': WHATEVER THE INPUT: true; the input reads as it did. -/
def fashionNewsSpec : ChangeSpec := { name := "fashionNews", fn := fun _ => fun
  | [d1, d2, d3] => { results := [.lit (.bool true)], args := [d1, d2, d3] }
  | _ => none }
def fashionNewsRow : OpenClaim := { program := "ytacedikpdmdodaa", sum := "3a0f2beac4fdb7f6718866fe62aa1e0bbadc5e267203dd99884290e53178e6da", func := "panache/panachelaw11.FashionNews", spec := "fashionNews", unfollowed := true, recurses := true, plainKeys := false, apart := false }
def FashionNewsSaid : Prop := fashionNewsRow.holds Try.pinned (OpenSpec.ofChange fashionNewsSpec)

/-- ITS FALSE NEIGHBOUR: 'it returns false'. Refute it at one input. -/
def fashionNewsWrong : ChangeSpec := { name := "fashionNews", fn := fun _ => fun
  | [d1, d2, d3] => { results := [.lit (.bool false)], args := [d1, d2, d3] }
  | _ => none }
def FashionNewsWrongFalsely : Prop := fashionNewsRow.holds Try.pinned (OpenSpec.ofChange fashionNewsWrong)

/-- 'panachelaw11.FashionBounds': WHATEVER THE INPUT: true; the input reads as it did. -/
def fashionBoundsSpec : ChangeSpec := { name := "fashionBounds", fn := fun _ => fun
  | [d1, d2, d3] => { results := [.lit (.bool true)], args := [d1, d2, d3] }
  | _ => none }
def fashionBoundsRow : OpenClaim := { program := "ytacedikpdmdodaa", sum := "3a0f2beac4fdb7f6718866fe62aa1e0bbadc5e267203dd99884290e53178e6da", func := "panache/panachelaw11.FashionBounds", spec := "fashionBounds", unfollowed := true, recurses := true, plainKeys := false, apart := false }
def FashionBoundsSaid : Prop := fashionBoundsRow.holds Try.pinned (OpenSpec.ofChange fashionBoundsSpec)

/-- ITS FALSE NEIGHBOUR: 'it returns false'. Refute it at one input. -/
def fashionBoundsWrong : ChangeSpec := { name := "fashionBounds", fn := fun _ => fun
  | [d1, d2, d3] => { results := [.lit (.bool false)], args := [d1, d2, d3] }
  | _ => none }
def FashionBoundsWrongFalsely : Prop := fashionBoundsRow.holds Try.pinned (OpenSpec.ofChange fashionBoundsWrong)

/-- 'panachelaw11.FashionRests': WHATEVER THE INPUT: true; the input reads as it did. -/
def fashionRestsSpec : ChangeSpec := { name := "fashionRests", fn := fun _ => fun
  | [d1, d2, d3] => { results := [.lit (.bool true)], args := [d1, d2, d3] }
  | _ => none }
def fashionRestsRow : OpenClaim := { program := "ytacedikpdmdodaa", sum := "3a0f2beac4fdb7f6718866fe62aa1e0bbadc5e267203dd99884290e53178e6da", func := "panache/panachelaw11.FashionRests", spec := "fashionRests", unfollowed := true, recurses := true, plainKeys := false, apart := false }
def FashionRestsSaid : Prop := fashionRestsRow.holds Try.pinned (OpenSpec.ofChange fashionRestsSpec)

/-- ITS FALSE NEIGHBOUR: 'it returns false'. Refute it at one input. -/
def fashionRestsWrong : ChangeSpec := { name := "fashionRests", fn := fun _ => fun
  | [d1, d2, d3] => { results := [.lit (.bool false)], args := [d1, d2, d3] }
  | _ => none }
def FashionRestsWrongFalsely : Prop := fashionRestsRow.holds Try.pinned (OpenSpec.ofChange fashionRestsWrong)

/-- 'panachelaw11.FashionLosses': WHATEVER THE INPUT: true; the input reads as it did. -/
def fashionLossesSpec : ChangeSpec := { name := "fashionLosses", fn := fun _ => fun
  | [d1, d2] => { results := [.lit (.bool true)], args := [d1, d2] }
  | _ => none }
def fashionLossesRow : OpenClaim := { program := "ytacedikpdmdodaa", sum := "3a0f2beac4fdb7f6718866fe62aa1e0bbadc5e267203dd99884290e53178e6da", func := "panache/panachelaw11.FashionLosses", spec := "fashionLosses", unfollowed := true, recurses := true, plainKeys := false, apart := false }
def FashionLossesSaid : Prop := fashionLossesRow.holds Try.pinned (OpenSpec.ofChange fashionLossesSpec)

/-- ITS FALSE NEIGHBOUR: 'it returns false'. Refute it at one input. -/
def fashionLossesWrong : ChangeSpec := { name := "fashionLosses", fn := fun _ => fun
  | [d1, d2] => { results := [.lit (.bool false)], args := [d1, d2] }
  | _ => none }
def FashionLossesWrongFalsely : Prop := fashionLossesRow.holds Try.pinned (OpenSpec.ofChange fashionLossesWrong)

/-- 'panachelaw11.FashionRises': WHATEVER THE INPUT: true; the input reads as it did. -/
def fashionRisesSpec : ChangeSpec := { name := "fashionRises", fn := fun _ => fun
  | [d1, d2, d3] => { results := [.lit (.bool true)], args := [d1, d2, d3] }
  | _ => none }
def fashionRisesRow : OpenClaim := { program := "ytacedikpdmdodaa", sum := "3a0f2beac4fdb7f6718866fe62aa1e0bbadc5e267203dd99884290e53178e6da", func := "panache/panachelaw11.FashionRises", spec := "fashionRises", unfollowed := true, recurses := true, plainKeys := false, apart := false }
def FashionRisesSaid : Prop := fashionRisesRow.holds Try.pinned (OpenSpec.ofChange fashionRisesSpec)

/-- ITS FALSE NEIGHBOUR: 'it returns false'. Refute it at one input. -/
def fashionRisesWrong : ChangeSpec := { name := "fashionRises", fn := fun _ => fun
  | [d1, d2, d3] => { results := [.lit (.bool false)], args := [d1, d2, d3] }
  | _ => none }
def FashionRisesWrongFalsely : Prop := fashionRisesRow.holds Try.pinned (OpenSpec.ofChange fashionRisesWrong)

/-- 'panachelaw11.FashionBought': WHATEVER THE INPUT: true; the input reads as it did. -/
def fashionBoughtSpec : ChangeSpec := { name := "fashionBought", fn := fun _ => fun
  | [d1, d2] => { results := [.lit (.bool true)], args := [d1, d2] }
  | _ => none }
def fashionBoughtRow : OpenClaim := { program := "ytacedikpdmdodaa", sum := "3a0f2beac4fdb7f6718866fe62aa1e0bbadc5e267203dd99884290e53178e6da", func := "panache/panachelaw11.FashionBought", spec := "fashionBought", unfollowed := true, recurses := true, plainKeys := false, apart := false }
def FashionBoughtSaid : Prop := fashionBoughtRow.holds Try.pinned (OpenSpec.ofChange fashionBoughtSpec)

/-- ITS FALSE NEIGHBOUR: 'it returns false'. Refute it at one input. -/
def fashionBoughtWrong : ChangeSpec := { name := "fashionBought", fn := fun _ => fun
  | [d1, d2] => { results := [.lit (.bool false)], args := [d1, d2] }
  | _ => none }
def FashionBoughtWrongFalsely : Prop := fashionBoughtRow.holds Try.pinned (OpenSpec.ofChange fashionBoughtWrong)

/-- 'panachelaw11.FashionKept': WHATEVER THE INPUT: true; the input reads as it did. -/
def fashionKeptSpec : ChangeSpec := { name := "fashionKept", fn := fun _ => fun
  | [d1, d2] => { results := [.lit (.bool true)], args := [d1, d2] }
  | _ => none }
def fashionKeptRow : OpenClaim := { program := "ytacedikpdmdodaa", sum := "3a0f2beac4fdb7f6718866fe62aa1e0bbadc5e267203dd99884290e53178e6da", func := "panache/panachelaw11.FashionKept", spec := "fashionKept", unfollowed := true, recurses := true, plainKeys := false, apart := false }
def FashionKeptSaid : Prop := fashionKeptRow.holds Try.pinned (OpenSpec.ofChange fashionKeptSpec)

/-- ITS FALSE NEIGHBOUR: 'it returns false'. Refute it at one input. -/
def fashionKeptWrong : ChangeSpec := { name := "fashionKept", fn := fun _ => fun
  | [d1, d2] => { results := [.lit (.bool false)], args := [d1, d2] }
  | _ => none }
def FashionKeptWrongFalsely : Prop := fashionKeptRow.holds Try.pinned (OpenSpec.ofChange fashionKeptWrong)

/-- 'panachelaw11.FashionEnough': WHATEVER THE INPUT: true; the input reads as it did. -/
def fashionEnoughSpec : ChangeSpec := { name := "fashionEnough", fn := fun _ => fun
  | [d1, d2] => { results := [.lit (.bool true)], args := [d1, d2] }
  | _ => none }
def fashionEnoughRow : OpenClaim := { program := "ytacedikpdmdodaa", sum := "3a0f2beac4fdb7f6718866fe62aa1e0bbadc5e267203dd99884290e53178e6da", func := "panache/panachelaw11.FashionEnough", spec := "fashionEnough", unfollowed := true, recurses := true, plainKeys := false, apart := false }
def FashionEnoughSaid : Prop := fashionEnoughRow.holds Try.pinned (OpenSpec.ofChange fashionEnoughSpec)

/-- ITS FALSE NEIGHBOUR: 'it returns false'. Refute it at one input. -/
def fashionEnoughWrong : ChangeSpec := { name := "fashionEnough", fn := fun _ => fun
  | [d1, d2] => { results := [.lit (.bool false)], args := [d1, d2] }
  | _ => none }
def FashionEnoughWrongFalsely : Prop := fashionEnoughRow.holds Try.pinned (OpenSpec.ofChange fashionEnoughWrong)

/-- 'panachelaw11.FashionCut': WHATEVER THE INPUT: true; the input reads as it did. -/
def fashionCutSpec : ChangeSpec := { name := "fashionCut", fn := fun _ => fun
  | [d1, d2] => { results := [.lit (.bool true)], args := [d1, d2] }
  | _ => none }
def fashionCutRow : OpenClaim := { program := "ytacedikpdmdodaa", sum := "3a0f2beac4fdb7f6718866fe62aa1e0bbadc5e267203dd99884290e53178e6da", func := "panache/panachelaw11.FashionCut", spec := "fashionCut", unfollowed := true, recurses := true, plainKeys := false, apart := false }
def FashionCutSaid : Prop := fashionCutRow.holds Try.pinned (OpenSpec.ofChange fashionCutSpec)

/-- ITS FALSE NEIGHBOUR: 'it returns false'. Refute it at one input. -/
def fashionCutWrong : ChangeSpec := { name := "fashionCut", fn := fun _ => fun
  | [d1, d2] => { results := [.lit (.bool false)], args := [d1, d2] }
  | _ => none }
def FashionCutWrongFalsely : Prop := fashionCutRow.holds Try.pinned (OpenSpec.ofChange fashionCutWrong)

/-- 'panachelaw11.FashionMost': WHATEVER THE INPUT: true; the input reads as it did. -/
def fashionMostSpec : ChangeSpec := { name := "fashionMost", fn := fun _ => fun
  | [d1, d2, d3] => { results := [.lit (.bool true)], args := [d1, d2, d3] }
  | _ => none }
def fashionMostRow : OpenClaim := { program := "ytacedikpdmdodaa", sum := "3a0f2beac4fdb7f6718866fe62aa1e0bbadc5e267203dd99884290e53178e6da", func := "panache/panachelaw11.FashionMost", spec := "fashionMost", unfollowed := true, recurses := true, plainKeys := false, apart := false }
def FashionMostSaid : Prop := fashionMostRow.holds Try.pinned (OpenSpec.ofChange fashionMostSpec)

/-- ITS FALSE NEIGHBOUR: 'it returns false'. Refute it at one input. -/
def fashionMostWrong : ChangeSpec := { name := "fashionMost", fn := fun _ => fun
  | [d1, d2, d3] => { results := [.lit (.bool false)], args := [d1, d2, d3] }
  | _ => none }
def FashionMostWrongFalsely : Prop := fashionMostRow.holds Try.pinned (OpenSpec.ofChange fashionMostWrong)

/-- 'panachelaw11.FashionChanges': WHATEVER THE INPUT: true; the input reads as it did. -/
def fashionChangesSpec : ChangeSpec := { name := "fashionChanges", fn := fun _ => fun
  | [d1, d2, d3] => { results := [.lit (.bool true)], args := [d1, d2, d3] }
  | _ => none }
def fashionChangesRow : OpenClaim := { program := "ytacedikpdmdodaa", sum := "3a0f2beac4fdb7f6718866fe62aa1e0bbadc5e267203dd99884290e53178e6da", func := "panache/panachelaw11.FashionChanges", spec := "fashionChanges", unfollowed := true, recurses := true, plainKeys := false, apart := false }
def FashionChangesSaid : Prop := fashionChangesRow.holds Try.pinned (OpenSpec.ofChange fashionChangesSpec)

/-- ITS FALSE NEIGHBOUR: 'it returns false'. Refute it at one input. -/
def fashionChangesWrong : ChangeSpec := { name := "fashionChanges", fn := fun _ => fun
  | [d1, d2, d3] => { results := [.lit (.bool false)], args := [d1, d2, d3] }
  | _ => none }
def FashionChangesWrongFalsely : Prop := fashionChangesRow.holds Try.pinned (OpenSpec.ofChange fashionChangesWrong)

/- THE SECOND FORM. 'bulk': how many values and letters a reading holds, each counted each time it is reached (what is shared counts as often as it is met; a slice's spare places count too). A statement '..UptoSaid' is the law's where the arguments, and the package variables that the reading takes, are together of bulk at most 1048576: NARROWER than '..Said'. Prove '..Said' where nothing that the law and all that it calls make is longer than what came in: it says more and counts as full. Else prove '..UptoSaid'. A law counts once. -/
mutual
def uptoBulk {H : Type} : DataW H → Nat
  | .lit (.string bytes) => bytes.length + 1
  | .lit _ => 1
  | .nil => 1
  | .ptr d => uptoBulk d + 1
  | .slice elems spare => uptoBulkAll elems + uptoBulkAll spare + 1
  | .agg parts => uptoBulkAll parts + 1
  | .iface _ d => uptoBulk d + 1
  | .map entries => uptoBulkEntries entries + 1
  | .held _ => 1
def uptoBulkAll {H : Type} : List (DataW H) → Nat
  | [] => 0
  | d :: r => uptoBulk d + uptoBulkAll r
def uptoBulkEntries {H : Type} : List (Lit × DataW H) → Nat
  | [] => 0
  | x :: r => uptoBulkEntry x + uptoBulkEntries r
def uptoBulkEntry {H : Type} : Lit × DataW H → Nat
  | (.string bytes, d) => bytes.length + uptoBulk d + 1
  | (_, d) => uptoBulk d + 1
 end
def uptoSmall : (H : Type) → List (DataW H) → Bool := fun _ ds => decide (uptoBulkAll ds ≤ 1048576)
def OpenSpec.upto (s : _root_.Go.ChangeSpec) : _root_.Go.OpenSpec := { _root_.Go.OpenSpec.ofChange s with cond := some uptoSmall }

/-- 'panachelaw11.FashionLeaves', WHERE WHAT IT READS IS OF BULK AT MOST 1048576: true; the input reads as it did. -/
def fashionLeavesUptoRow : OpenClaim := { program := "ytacedikpdmdodaa", sum := "3a0f2beac4fdb7f6718866fe62aa1e0bbadc5e267203dd99884290e53178e6da", func := "panache/panachelaw11.FashionLeaves", spec := "fashionLeaves", unfollowed := true, recurses := true, plainKeys := false, apart := false, narrowed := true }
def FashionLeavesUptoSaid : Prop := fashionLeavesUptoRow.holds Try.pinned (OpenSpec.upto fashionLeavesSpec)

/-- 'panachelaw11.FashionLots', WHERE WHAT IT READS IS OF BULK AT MOST 1048576: true; the input reads as it did. -/
def fashionLotsUptoRow : OpenClaim := { program := "ytacedikpdmdodaa", sum := "3a0f2beac4fdb7f6718866fe62aa1e0bbadc5e267203dd99884290e53178e6da", func := "panache/panachelaw11.FashionLots", spec := "fashionLots", unfollowed := true, recurses := true, plainKeys := false, apart := false, narrowed := true }
def FashionLotsUptoSaid : Prop := fashionLotsUptoRow.holds Try.pinned (OpenSpec.upto fashionLotsSpec)

/-- 'panachelaw11.FashionNews', WHERE WHAT IT READS IS OF BULK AT MOST 1048576: true; the input reads as it did. -/
def fashionNewsUptoRow : OpenClaim := { program := "ytacedikpdmdodaa", sum := "3a0f2beac4fdb7f6718866fe62aa1e0bbadc5e267203dd99884290e53178e6da", func := "panache/panachelaw11.FashionNews", spec := "fashionNews", unfollowed := true, recurses := true, plainKeys := false, apart := false, narrowed := true }
def FashionNewsUptoSaid : Prop := fashionNewsUptoRow.holds Try.pinned (OpenSpec.upto fashionNewsSpec)

/-- 'panachelaw11.FashionBounds', WHERE WHAT IT READS IS OF BULK AT MOST 1048576: true; the input reads as it did. -/
def fashionBoundsUptoRow : OpenClaim := { program := "ytacedikpdmdodaa", sum := "3a0f2beac4fdb7f6718866fe62aa1e0bbadc5e267203dd99884290e53178e6da", func := "panache/panachelaw11.FashionBounds", spec := "fashionBounds", unfollowed := true, recurses := true, plainKeys := false, apart := false, narrowed := true }
def FashionBoundsUptoSaid : Prop := fashionBoundsUptoRow.holds Try.pinned (OpenSpec.upto fashionBoundsSpec)

/-- 'panachelaw11.FashionRests', WHERE WHAT IT READS IS OF BULK AT MOST 1048576: true; the input reads as it did. -/
def fashionRestsUptoRow : OpenClaim := { program := "ytacedikpdmdodaa", sum := "3a0f2beac4fdb7f6718866fe62aa1e0bbadc5e267203dd99884290e53178e6da", func := "panache/panachelaw11.FashionRests", spec := "fashionRests", unfollowed := true, recurses := true, plainKeys := false, apart := false, narrowed := true }
def FashionRestsUptoSaid : Prop := fashionRestsUptoRow.holds Try.pinned (OpenSpec.upto fashionRestsSpec)

/-- 'panachelaw11.FashionLosses', WHERE WHAT IT READS IS OF BULK AT MOST 1048576: true; the input reads as it did. -/
def fashionLossesUptoRow : OpenClaim := { program := "ytacedikpdmdodaa", sum := "3a0f2beac4fdb7f6718866fe62aa1e0bbadc5e267203dd99884290e53178e6da", func := "panache/panachelaw11.FashionLosses", spec := "fashionLosses", unfollowed := true, recurses := true, plainKeys := false, apart := false, narrowed := true }
def FashionLossesUptoSaid : Prop := fashionLossesUptoRow.holds Try.pinned (OpenSpec.upto fashionLossesSpec)

/-- 'panachelaw11.FashionRises', WHERE WHAT IT READS IS OF BULK AT MOST 1048576: true; the input reads as it did. -/
def fashionRisesUptoRow : OpenClaim := { program := "ytacedikpdmdodaa", sum := "3a0f2beac4fdb7f6718866fe62aa1e0bbadc5e267203dd99884290e53178e6da", func := "panache/panachelaw11.FashionRises", spec := "fashionRises", unfollowed := true, recurses := true, plainKeys := false, apart := false, narrowed := true }
def FashionRisesUptoSaid : Prop := fashionRisesUptoRow.holds Try.pinned (OpenSpec.upto fashionRisesSpec)

/-- 'panachelaw11.FashionBought', WHERE WHAT IT READS IS OF BULK AT MOST 1048576: true; the input reads as it did. -/
def fashionBoughtUptoRow : OpenClaim := { program := "ytacedikpdmdodaa", sum := "3a0f2beac4fdb7f6718866fe62aa1e0bbadc5e267203dd99884290e53178e6da", func := "panache/panachelaw11.FashionBought", spec := "fashionBought", unfollowed := true, recurses := true, plainKeys := false, apart := false, narrowed := true }
def FashionBoughtUptoSaid : Prop := fashionBoughtUptoRow.holds Try.pinned (OpenSpec.upto fashionBoughtSpec)

/-- 'panachelaw11.FashionKept', WHERE WHAT IT READS IS OF BULK AT MOST 1048576: true; the input reads as it did. -/
def fashionKeptUptoRow : OpenClaim := { program := "ytacedikpdmdodaa", sum := "3a0f2beac4fdb7f6718866fe62aa1e0bbadc5e267203dd99884290e53178e6da", func := "panache/panachelaw11.FashionKept", spec := "fashionKept", unfollowed := true, recurses := true, plainKeys := false, apart := false, narrowed := true }
def FashionKeptUptoSaid : Prop := fashionKeptUptoRow.holds Try.pinned (OpenSpec.upto fashionKeptSpec)

/-- 'panachelaw11.FashionEnough', WHERE WHAT IT READS IS OF BULK AT MOST 1048576: true; the input reads as it did. -/
def fashionEnoughUptoRow : OpenClaim := { program := "ytacedikpdmdodaa", sum := "3a0f2beac4fdb7f6718866fe62aa1e0bbadc5e267203dd99884290e53178e6da", func := "panache/panachelaw11.FashionEnough", spec := "fashionEnough", unfollowed := true, recurses := true, plainKeys := false, apart := false, narrowed := true }
def FashionEnoughUptoSaid : Prop := fashionEnoughUptoRow.holds Try.pinned (OpenSpec.upto fashionEnoughSpec)

/-- 'panachelaw11.FashionCut', WHERE WHAT IT READS IS OF BULK AT MOST 1048576: true; the input reads as it did. -/
def fashionCutUptoRow : OpenClaim := { program := "ytacedikpdmdodaa", sum := "3a0f2beac4fdb7f6718866fe62aa1e0bbadc5e267203dd99884290e53178e6da", func := "panache/panachelaw11.FashionCut", spec := "fashionCut", unfollowed := true, recurses := true, plainKeys := false, apart := false, narrowed := true }
def FashionCutUptoSaid : Prop := fashionCutUptoRow.holds Try.pinned (OpenSpec.upto fashionCutSpec)

/-- 'panachelaw11.FashionMost', WHERE WHAT IT READS IS OF BULK AT MOST 1048576: true; the input reads as it did. -/
def fashionMostUptoRow : OpenClaim := { program := "ytacedikpdmdodaa", sum := "3a0f2beac4fdb7f6718866fe62aa1e0bbadc5e267203dd99884290e53178e6da", func := "panache/panachelaw11.FashionMost", spec := "fashionMost", unfollowed := true, recurses := true, plainKeys := false, apart := false, narrowed := true }
def FashionMostUptoSaid : Prop := fashionMostUptoRow.holds Try.pinned (OpenSpec.upto fashionMostSpec)

/-- 'panachelaw11.FashionChanges', WHERE WHAT IT READS IS OF BULK AT MOST 1048576: true; the input reads as it did. -/
def fashionChangesUptoRow : OpenClaim := { program := "ytacedikpdmdodaa", sum := "3a0f2beac4fdb7f6718866fe62aa1e0bbadc5e267203dd99884290e53178e6da", func := "panache/panachelaw11.FashionChanges", spec := "fashionChanges", unfollowed := true, recurses := true, plainKeys := false, apart := false, narrowed := true }
def FashionChangesUptoSaid : Prop := fashionChangesUptoRow.holds Try.pinned (OpenSpec.upto fashionChangesSpec)

end Rows
end Go.Proofs.Ytacedikpdmdodaa

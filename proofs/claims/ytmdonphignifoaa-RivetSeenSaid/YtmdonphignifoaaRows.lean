/-
  No cell of these rows narrows 'for every input' (looked for: loops, veiled, ifaces, maps, wideKeys, modest, calm, conditions, laid).
  DERIVED. THE GIVEN ROWS OF THIS SEAT. 7 by the template 'for every input the law returns true; each argument reads behind the call as it read before'; 0 by the template 'total and deterministic' (their statements: YtmdonphignifoaaTotals.lean).
  GIVEN WITH THE SEED: the statements are not yours to turn. If you find one false, say at which input.
  Laid BY PROGRAM, IN A SANDBOX (cutbox-rows.mjs): the forced cells as the released guide's own fill.sh prints them over the translation 9358774a444eaabc… (all of the seat's roots in one cut). By AI agents, Wed Nov 11 2026. No macro, syntax, notation, axiom, sorry.
-/
import Derived.Test.YtmdonphignifoaaChecked
import GoSem.Claim
import GoSem.ClaimJoined
import GoSem.ClaimMapViews
import Derived.JoinedTies
import Derived.KernelRfl
namespace Go.Proofs.Ytmdonphignifoaa
/- THE CELL 'sum', in the pinned program and in every row, IS THE sha256 OF THE DUMP (.gsa) THAT YtmdonphignifoaaProg.lean LOADS. Nothing in Lean hashes anything: it is a label: what it is worth is what the hold of that sum in a sandbox is worth. -/
noncomputable def Try.pinned : Pinned := { name := "ytmdonphignifoaa", sum := "9358774a444eaabc376bf0fb6018f2b8fc3f6c32a5ca1c1bd80d09211c32bf15", checked := Try.checked }
namespace Rows
def none {H : Type} : Left H := { results := [], args := [] }

/-- 'panachelaw05.RivetStops': WHATEVER THE INPUT: true; the input reads as it did. -/
def rivetStopsSpec : ChangeSpec := { name := "rivetStops", fn := fun _ => fun
  | [d] => { results := [.lit (.bool true)], args := [d] }
  | _ => none }
def rivetStopsRow : OpenClaim := { program := "ytmdonphignifoaa", sum := "9358774a444eaabc376bf0fb6018f2b8fc3f6c32a5ca1c1bd80d09211c32bf15", func := "panache/panachelaw05.RivetStops", spec := "rivetStops", unfollowed := true, recurses := true, apart := false }
def RivetStopsSaid : Prop := rivetStopsRow.holds Try.pinned (OpenSpec.ofChange rivetStopsSpec)

/-- ITS FALSE NEIGHBOUR: 'it returns false'. Refute it at one input. -/
def rivetStopsWrong : ChangeSpec := { name := "rivetStops", fn := fun _ => fun
  | [d] => { results := [.lit (.bool false)], args := [d] }
  | _ => none }
def RivetStopsWrongFalsely : Prop := rivetStopsRow.holds Try.pinned (OpenSpec.ofChange rivetStopsWrong)

/-- 'panachelaw05.RivetBalances': WHATEVER THE INPUT: true; the input reads as it did. -/
def rivetBalancesSpec : ChangeSpec := { name := "rivetBalances", fn := fun _ => fun
  | [d] => { results := [.lit (.bool true)], args := [d] }
  | _ => none }
def rivetBalancesRow : OpenClaim := { program := "ytmdonphignifoaa", sum := "9358774a444eaabc376bf0fb6018f2b8fc3f6c32a5ca1c1bd80d09211c32bf15", func := "panache/panachelaw05.RivetBalances", spec := "rivetBalances", unfollowed := true, recurses := true, apart := false }
def RivetBalancesSaid : Prop := rivetBalancesRow.holds Try.pinned (OpenSpec.ofChange rivetBalancesSpec)

/-- ITS FALSE NEIGHBOUR: 'it returns false'. Refute it at one input. -/
def rivetBalancesWrong : ChangeSpec := { name := "rivetBalances", fn := fun _ => fun
  | [d] => { results := [.lit (.bool false)], args := [d] }
  | _ => none }
def RivetBalancesWrongFalsely : Prop := rivetBalancesRow.holds Try.pinned (OpenSpec.ofChange rivetBalancesWrong)

/-- 'panachelaw05.RivetSeen': WHATEVER THE INPUT: true; the input reads as it did. -/
def rivetSeenSpec : ChangeSpec := { name := "rivetSeen", fn := fun _ => fun
  | [d1, d2, d3] => { results := [.lit (.bool true)], args := [d1, d2, d3] }
  | _ => none }
def rivetSeenRow : OpenClaim := { program := "ytmdonphignifoaa", sum := "9358774a444eaabc376bf0fb6018f2b8fc3f6c32a5ca1c1bd80d09211c32bf15", func := "panache/panachelaw05.RivetSeen", spec := "rivetSeen", unfollowed := true, recurses := true, apart := false }
def RivetSeenSaid : Prop := rivetSeenRow.holds Try.pinned (OpenSpec.ofChange rivetSeenSpec)

/-- ITS FALSE NEIGHBOUR: 'it returns false'. Refute it at one input. -/
def rivetSeenWrong : ChangeSpec := { name := "rivetSeen", fn := fun _ => fun
  | [d1, d2, d3] => { results := [.lit (.bool false)], args := [d1, d2, d3] }
  | _ => none }
def RivetSeenWrongFalsely : Prop := rivetSeenRow.holds Try.pinned (OpenSpec.ofChange rivetSeenWrong)

/-- 'panachelaw05.RivetEnough': WHATEVER THE INPUT: true; the input reads as it did. -/
def rivetEnoughSpec : ChangeSpec := { name := "rivetEnough", fn := fun _ => fun
  | [d1, d2, d3] => { results := [.lit (.bool true)], args := [d1, d2, d3] }
  | _ => none }
def rivetEnoughRow : OpenClaim := { program := "ytmdonphignifoaa", sum := "9358774a444eaabc376bf0fb6018f2b8fc3f6c32a5ca1c1bd80d09211c32bf15", func := "panache/panachelaw05.RivetEnough", spec := "rivetEnough", unfollowed := true, recurses := true, apart := false }
def RivetEnoughSaid : Prop := rivetEnoughRow.holds Try.pinned (OpenSpec.ofChange rivetEnoughSpec)

/-- ITS FALSE NEIGHBOUR: 'it returns false'. Refute it at one input. -/
def rivetEnoughWrong : ChangeSpec := { name := "rivetEnough", fn := fun _ => fun
  | [d1, d2, d3] => { results := [.lit (.bool false)], args := [d1, d2, d3] }
  | _ => none }
def RivetEnoughWrongFalsely : Prop := rivetEnoughRow.holds Try.pinned (OpenSpec.ofChange rivetEnoughWrong)

/-- 'panachelaw05.RivetCloses': WHATEVER THE INPUT: true; the input reads as it did. -/
def rivetClosesSpec : ChangeSpec := { name := "rivetCloses", fn := fun _ => fun
  | [d1, d2] => { results := [.lit (.bool true)], args := [d1, d2] }
  | _ => none }
def rivetClosesRow : OpenClaim := { program := "ytmdonphignifoaa", sum := "9358774a444eaabc376bf0fb6018f2b8fc3f6c32a5ca1c1bd80d09211c32bf15", func := "panache/panachelaw05.RivetCloses", spec := "rivetCloses", unfollowed := true, recurses := true, apart := false }
def RivetClosesSaid : Prop := rivetClosesRow.holds Try.pinned (OpenSpec.ofChange rivetClosesSpec)

/-- ITS FALSE NEIGHBOUR: 'it returns false'. Refute it at one input. -/
def rivetClosesWrong : ChangeSpec := { name := "rivetCloses", fn := fun _ => fun
  | [d1, d2] => { results := [.lit (.bool false)], args := [d1, d2] }
  | _ => none }
def RivetClosesWrongFalsely : Prop := rivetClosesRow.holds Try.pinned (OpenSpec.ofChange rivetClosesWrong)

/-- 'panachelaw05.RivetCentre': WHATEVER THE INPUT: true; the input reads as it did. -/
def rivetCentreSpec : ChangeSpec := { name := "rivetCentre", fn := fun _ => fun
  | [d1, d2, d3] => { results := [.lit (.bool true)], args := [d1, d2, d3] }
  | _ => none }
def rivetCentreRow : OpenClaim := { program := "ytmdonphignifoaa", sum := "9358774a444eaabc376bf0fb6018f2b8fc3f6c32a5ca1c1bd80d09211c32bf15", func := "panache/panachelaw05.RivetCentre", spec := "rivetCentre", unfollowed := true, recurses := true, apart := false }
def RivetCentreSaid : Prop := rivetCentreRow.holds Try.pinned (OpenSpec.ofChange rivetCentreSpec)

/-- ITS FALSE NEIGHBOUR: 'it returns false'. Refute it at one input. -/
def rivetCentreWrong : ChangeSpec := { name := "rivetCentre", fn := fun _ => fun
  | [d1, d2, d3] => { results := [.lit (.bool false)], args := [d1, d2, d3] }
  | _ => none }
def RivetCentreWrongFalsely : Prop := rivetCentreRow.holds Try.pinned (OpenSpec.ofChange rivetCentreWrong)

/-- 'panachelaw05.RivetNever': WHATEVER THE INPUT: true; the input reads as it did. -/
def rivetNeverSpec : ChangeSpec := { name := "rivetNever", fn := fun _ => fun
  | [d1, d2, d3] => { results := [.lit (.bool true)], args := [d1, d2, d3] }
  | _ => none }
def rivetNeverRow : OpenClaim := { program := "ytmdonphignifoaa", sum := "9358774a444eaabc376bf0fb6018f2b8fc3f6c32a5ca1c1bd80d09211c32bf15", func := "panache/panachelaw05.RivetNever", spec := "rivetNever", unfollowed := true, recurses := true, apart := false }
def RivetNeverSaid : Prop := rivetNeverRow.holds Try.pinned (OpenSpec.ofChange rivetNeverSpec)

/-- ITS FALSE NEIGHBOUR: 'it returns false'. Refute it at one input. -/
def rivetNeverWrong : ChangeSpec := { name := "rivetNever", fn := fun _ => fun
  | [d1, d2, d3] => { results := [.lit (.bool false)], args := [d1, d2, d3] }
  | _ => none }
def RivetNeverWrongFalsely : Prop := rivetNeverRow.holds Try.pinned (OpenSpec.ofChange rivetNeverWrong)

/- THE SECOND FORM. 'bulk': how many values and letters a reading holds, each counted each time it is reached (what is shared counts as often as it is met; a slice's spare places count too). A statement '..UptoSaid' is the law's where the arguments, and the package variables that the reading takes, are together of bulk at most 1048576: NARROWER than '..Said'. Prove '..Said' where nothing that the law and all that it calls make is longer than what came in: it says more and counts as full. Else prove '..UptoSaid'. A law counts once. -/
mutual
def uptoBulk {H : Type} : DataW H → Nat
  | .lit (.string bytes) => bytes.length + 1
  | .lit _ => 1
  | .nil => 1
  | .ptr d => uptoBulk d + 1
  | .slice elems spare => uptoBulkAll elems + uptoBulkAll spare + 1
  | .agg parts => uptoBulkAll parts + 1
  | .iface _ d => uptoBulk d + 1
  | .map entries => uptoBulkEntries entries + 1
  | .held _ => 1
def uptoBulkAll {H : Type} : List (DataW H) → Nat
  | [] => 0
  | d :: r => uptoBulk d + uptoBulkAll r
def uptoBulkEntries {H : Type} : List (Lit × DataW H) → Nat
  | [] => 0
  | x :: r => uptoBulkEntry x + uptoBulkEntries r
def uptoBulkEntry {H : Type} : Lit × DataW H → Nat
  | (.string bytes, d) => bytes.length + uptoBulk d + 1
  | (_, d) => uptoBulk d + 1
 end
def uptoSmall : (H : Type) → List (DataW H) → Bool := fun _ ds => decide (uptoBulkAll ds ≤ 1048576)
def OpenSpec.upto (s : _root_.Go.ChangeSpec) : _root_.Go.OpenSpec := { _root_.Go.OpenSpec.ofChange s with cond := some uptoSmall }

/-- 'panachelaw05.RivetStops', WHERE WHAT IT READS IS OF BULK AT MOST 1048576: true; the input reads as it did. -/
def rivetStopsUptoRow : OpenClaim := { program := "ytmdonphignifoaa", sum := "9358774a444eaabc376bf0fb6018f2b8fc3f6c32a5ca1c1bd80d09211c32bf15", func := "panache/panachelaw05.RivetStops", spec := "rivetStops", unfollowed := true, recurses := true, apart := false, narrowed := true }
def RivetStopsUptoSaid : Prop := rivetStopsUptoRow.holds Try.pinned (OpenSpec.upto rivetStopsSpec)

/-- 'panachelaw05.RivetBalances', WHERE WHAT IT READS IS OF BULK AT MOST 1048576: true; the input reads as it did. -/
def rivetBalancesUptoRow : OpenClaim := { program := "ytmdonphignifoaa", sum := "9358774a444eaabc376bf0fb6018f2b8fc3f6c32a5ca1c1bd80d09211c32bf15", func := "panache/panachelaw05.RivetBalances", spec := "rivetBalances", unfollowed := true, recurses := true, apart := false, narrowed := true }
def RivetBalancesUptoSaid : Prop := rivetBalancesUptoRow.holds Try.pinned (OpenSpec.upto rivetBalancesSpec)

/-- 'panachelaw05.RivetSeen', WHERE WHAT IT READS IS OF BULK AT MOST 1048576: true; the input reads as it did. -/
def rivetSeenUptoRow : OpenClaim := { program := "ytmdonphignifoaa", sum := "9358774a444eaabc376bf0fb6018f2b8fc3f6c32a5ca1c1bd80d09211c32bf15", func := "panache/panachelaw05.RivetSeen", spec := "rivetSeen", unfollowed := true, recurses := true, apart := false, narrowed := true }
def RivetSeenUptoSaid : Prop := rivetSeenUptoRow.holds Try.pinned (OpenSpec.upto rivetSeenSpec)

/-- 'panachelaw05.RivetEnough', WHERE WHAT IT READS IS OF BULK AT MOST 1048576: true; the input reads as it did. -/
def rivetEnoughUptoRow : OpenClaim := { program := "ytmdonphignifoaa", sum := "9358774a444eaabc376bf0fb6018f2b8fc3f6c32a5ca1c1bd80d09211c32bf15", func := "panache/panachelaw05.RivetEnough", spec := "rivetEnough", unfollowed := true, recurses := true, apart := false, narrowed := true }
def RivetEnoughUptoSaid : Prop := rivetEnoughUptoRow.holds Try.pinned (OpenSpec.upto rivetEnoughSpec)

/-- 'panachelaw05.RivetCloses', WHERE WHAT IT READS IS OF BULK AT MOST 1048576: true; the input reads as it did. -/
def rivetClosesUptoRow : OpenClaim := { program := "ytmdonphignifoaa", sum := "9358774a444eaabc376bf0fb6018f2b8fc3f6c32a5ca1c1bd80d09211c32bf15", func := "panache/panachelaw05.RivetCloses", spec := "rivetCloses", unfollowed := true, recurses := true, apart := false, narrowed := true }
def RivetClosesUptoSaid : Prop := rivetClosesUptoRow.holds Try.pinned (OpenSpec.upto rivetClosesSpec)

/-- 'panachelaw05.RivetCentre', WHERE WHAT IT READS IS OF BULK AT MOST 1048576: true; the input reads as it did. -/
def rivetCentreUptoRow : OpenClaim := { program := "ytmdonphignifoaa", sum := "9358774a444eaabc376bf0fb6018f2b8fc3f6c32a5ca1c1bd80d09211c32bf15", func := "panache/panachelaw05.RivetCentre", spec := "rivetCentre", unfollowed := true, recurses := true, apart := false, narrowed := true }
def RivetCentreUptoSaid : Prop := rivetCentreUptoRow.holds Try.pinned (OpenSpec.upto rivetCentreSpec)

/-- 'panachelaw05.RivetNever', WHERE WHAT IT READS IS OF BULK AT MOST 1048576: true; the input reads as it did. -/
def rivetNeverUptoRow : OpenClaim := { program := "ytmdonphignifoaa", sum := "9358774a444eaabc376bf0fb6018f2b8fc3f6c32a5ca1c1bd80d09211c32bf15", func := "panache/panachelaw05.RivetNever", spec := "rivetNever", unfollowed := true, recurses := true, apart := false, narrowed := true }
def RivetNeverUptoSaid : Prop := rivetNeverUptoRow.holds Try.pinned (OpenSpec.upto rivetNeverSpec)

end Rows
end Go.Proofs.Ytmdonphignifoaa

/-
  No cell of these rows narrows 'for every input' (looked for: loops, veiled, ifaces, maps, wideKeys, modest, calm, conditions, laid).
  DERIVED. THE GIVEN ROWS OF THIS SEAT. 7 by the template 'for every input the law returns true; each argument reads behind the call as it read before'; 0 by the template 'total and deterministic' (their statements: YtmdonphignifoaaGreatTotals.lean).
  GIVEN WITH THE SEED: the statements are not yours to turn. If you find one false, say at which input.
  Laid BY PROGRAM, IN A SANDBOX (cutbox-rows.mjs): the forced cells as the released guide's own fill.sh prints them over the translation 7a500f08128412ab… (all of the seat's roots in one cut). By AI agents, Wed Nov 11 2026. No macro, syntax, notation, axiom, sorry.
-/
import Derived.Test.YtmdonphignifoaaGreatChecked
import GoSem.Claim
import GoSem.ClaimJoined
import GoSem.ClaimMapViews
import Derived.JoinedTies
import Derived.KernelRfl
namespace Go.Proofs.YtmdonphignifoaaGreat
/- THE CELL 'sum', in the pinned program and in every row, IS THE sha256 OF THE DUMP (.gsa) THAT YtmdonphignifoaaGreatProg.lean LOADS. Nothing in Lean hashes anything: it is a label: what it is worth is what the hold of that sum in a sandbox is worth. -/
noncomputable def Tryz.pinned : Pinned := { name := "ytmdonphignifoaagreat", sum := "7a500f08128412abab8bd92267dfe99d9c0316951d90cc99c1547ab966dfec72", checked := Tryz.checked }
namespace Rows
def none {H : Type} : Left H := { results := [], args := [] }

/-- 'panachelaw05.RivetOpens': WHATEVER THE INPUT: true; the input reads as it did. -/
def rivetOpensSpec : ChangeSpec := { name := "rivetOpens", fn := fun _ => fun
  | [d] => { results := [.lit (.bool true)], args := [d] }
  | _ => none }
def rivetOpensRow : OpenClaim := { program := "ytmdonphignifoaagreat", sum := "7a500f08128412abab8bd92267dfe99d9c0316951d90cc99c1547ab966dfec72", func := "panache/panachelaw05.RivetOpens", spec := "rivetOpens", unfollowed := true, recurses := true, apart := false }
def RivetOpensSaid : Prop := rivetOpensRow.holds Tryz.pinned (OpenSpec.ofChange rivetOpensSpec)

/-- ITS FALSE NEIGHBOUR: 'it returns false'. Refute it at one input. -/
def rivetOpensWrong : ChangeSpec := { name := "rivetOpens", fn := fun _ => fun
  | [d] => { results := [.lit (.bool false)], args := [d] }
  | _ => none }
def RivetOpensWrongFalsely : Prop := rivetOpensRow.holds Tryz.pinned (OpenSpec.ofChange rivetOpensWrong)

/-- 'panachelaw05.RivetWidens': WHATEVER THE INPUT: true; the input reads as it did. -/
def rivetWidensSpec : ChangeSpec := { name := "rivetWidens", fn := fun _ => fun
  | [d1, d2] => { results := [.lit (.bool true)], args := [d1, d2] }
  | _ => none }
def rivetWidensRow : OpenClaim := { program := "ytmdonphignifoaagreat", sum := "7a500f08128412abab8bd92267dfe99d9c0316951d90cc99c1547ab966dfec72", func := "panache/panachelaw05.RivetWidens", spec := "rivetWidens", unfollowed := true, recurses := true, apart := false }
def RivetWidensSaid : Prop := rivetWidensRow.holds Tryz.pinned (OpenSpec.ofChange rivetWidensSpec)

/-- ITS FALSE NEIGHBOUR: 'it returns false'. Refute it at one input. -/
def rivetWidensWrong : ChangeSpec := { name := "rivetWidens", fn := fun _ => fun
  | [d1, d2] => { results := [.lit (.bool false)], args := [d1, d2] }
  | _ => none }
def RivetWidensWrongFalsely : Prop := rivetWidensRow.holds Tryz.pinned (OpenSpec.ofChange rivetWidensWrong)

/-- 'panachelaw05.RivetWrongs': WHATEVER THE INPUT: true; the input reads as it did. -/
def rivetWrongsSpec : ChangeSpec := { name := "rivetWrongs", fn := fun _ => fun
  | [d1, d2] => { results := [.lit (.bool true)], args := [d1, d2] }
  | _ => none }
def rivetWrongsRow : OpenClaim := { program := "ytmdonphignifoaagreat", sum := "7a500f08128412abab8bd92267dfe99d9c0316951d90cc99c1547ab966dfec72", func := "panache/panachelaw05.RivetWrongs", spec := "rivetWrongs", unfollowed := true, recurses := true, apart := false }
def RivetWrongsSaid : Prop := rivetWrongsRow.holds Tryz.pinned (OpenSpec.ofChange rivetWrongsSpec)

/-- ITS FALSE NEIGHBOUR: 'it returns false'. Refute it at one input. -/
def rivetWrongsWrong : ChangeSpec := { name := "rivetWrongs", fn := fun _ => fun
  | [d1, d2] => { results := [.lit (.bool false)], args := [d1, d2] }
  | _ => none }
def RivetWrongsWrongFalsely : Prop := rivetWrongsRow.holds Tryz.pinned (OpenSpec.ofChange rivetWrongsWrong)

/-- 'panachelaw05.RivetSticks': WHATEVER THE INPUT: true; the input reads as it did. -/
def rivetSticksSpec : ChangeSpec := { name := "rivetSticks", fn := fun _ => fun
  | [d1, d2] => { results := [.lit (.bool true)], args := [d1, d2] }
  | _ => none }
def rivetSticksRow : OpenClaim := { program := "ytmdonphignifoaagreat", sum := "7a500f08128412abab8bd92267dfe99d9c0316951d90cc99c1547ab966dfec72", func := "panache/panachelaw05.RivetSticks", spec := "rivetSticks", unfollowed := true, recurses := true, apart := false }
def RivetSticksSaid : Prop := rivetSticksRow.holds Tryz.pinned (OpenSpec.ofChange rivetSticksSpec)

/-- ITS FALSE NEIGHBOUR: 'it returns false'. Refute it at one input. -/
def rivetSticksWrong : ChangeSpec := { name := "rivetSticks", fn := fun _ => fun
  | [d1, d2] => { results := [.lit (.bool false)], args := [d1, d2] }
  | _ => none }
def RivetSticksWrongFalsely : Prop := rivetSticksRow.holds Tryz.pinned (OpenSpec.ofChange rivetSticksWrong)

/-- 'panachelaw05.RivetPleats': WHATEVER THE INPUT: true; the input reads as it did. -/
def rivetPleatsSpec : ChangeSpec := { name := "rivetPleats", fn := fun _ => fun
  | [d1, d2] => { results := [.lit (.bool true)], args := [d1, d2] }
  | _ => none }
def rivetPleatsRow : OpenClaim := { program := "ytmdonphignifoaagreat", sum := "7a500f08128412abab8bd92267dfe99d9c0316951d90cc99c1547ab966dfec72", func := "panache/panachelaw05.RivetPleats", spec := "rivetPleats", unfollowed := true, recurses := true, apart := false }
def RivetPleatsSaid : Prop := rivetPleatsRow.holds Tryz.pinned (OpenSpec.ofChange rivetPleatsSpec)

/-- ITS FALSE NEIGHBOUR: 'it returns false'. Refute it at one input. -/
def rivetPleatsWrong : ChangeSpec := { name := "rivetPleats", fn := fun _ => fun
  | [d1, d2] => { results := [.lit (.bool false)], args := [d1, d2] }
  | _ => none }
def RivetPleatsWrongFalsely : Prop := rivetPleatsRow.holds Tryz.pinned (OpenSpec.ofChange rivetPleatsWrong)

/-- 'panachelaw05.RivetTurns': WHATEVER THE INPUT: true; the input reads as it did. -/
def rivetTurnsSpec : ChangeSpec := { name := "rivetTurns", fn := fun _ => fun
  | [d1, d2] => { results := [.lit (.bool true)], args := [d1, d2] }
  | _ => none }
def rivetTurnsRow : OpenClaim := { program := "ytmdonphignifoaagreat", sum := "7a500f08128412abab8bd92267dfe99d9c0316951d90cc99c1547ab966dfec72", func := "panache/panachelaw05.RivetTurns", spec := "rivetTurns", unfollowed := true, recurses := true, apart := false }
def RivetTurnsSaid : Prop := rivetTurnsRow.holds Tryz.pinned (OpenSpec.ofChange rivetTurnsSpec)

/-- ITS FALSE NEIGHBOUR: 'it returns false'. Refute it at one input. -/
def rivetTurnsWrong : ChangeSpec := { name := "rivetTurns", fn := fun _ => fun
  | [d1, d2] => { results := [.lit (.bool false)], args := [d1, d2] }
  | _ => none }
def RivetTurnsWrongFalsely : Prop := rivetTurnsRow.holds Tryz.pinned (OpenSpec.ofChange rivetTurnsWrong)

/-- 'panachelaw05.RivetCompares': WHATEVER THE INPUT: true; the input reads as it did. -/
def rivetComparesSpec : ChangeSpec := { name := "rivetCompares", fn := fun _ => fun
  | [d1, d2] => { results := [.lit (.bool true)], args := [d1, d2] }
  | _ => none }
def rivetComparesRow : OpenClaim := { program := "ytmdonphignifoaagreat", sum := "7a500f08128412abab8bd92267dfe99d9c0316951d90cc99c1547ab966dfec72", func := "panache/panachelaw05.RivetCompares", spec := "rivetCompares", unfollowed := true, recurses := true, apart := false }
def RivetComparesSaid : Prop := rivetComparesRow.holds Tryz.pinned (OpenSpec.ofChange rivetComparesSpec)

/-- ITS FALSE NEIGHBOUR: 'it returns false'. Refute it at one input. -/
def rivetComparesWrong : ChangeSpec := { name := "rivetCompares", fn := fun _ => fun
  | [d1, d2] => { results := [.lit (.bool false)], args := [d1, d2] }
  | _ => none }
def RivetComparesWrongFalsely : Prop := rivetComparesRow.holds Tryz.pinned (OpenSpec.ofChange rivetComparesWrong)

/- THE SECOND FORM. 'bulk': how many values and letters a reading holds, each counted each time it is reached (what is shared counts as often as it is met; a slice's spare places count too). A statement '..UptoSaid' is the law's where the arguments, and the package variables that the reading takes, are together of bulk at most 1048576: NARROWER than '..Said'. Prove '..Said' where nothing that the law and all that it calls make is longer than what came in: it says more and counts as full. Else prove '..UptoSaid'. A law counts once. -/
mutual
def uptoBulk {H : Type} : DataW H → Nat
  | .lit (.string bytes) => bytes.length + 1
  | .lit _ => 1
  | .nil => 1
  | .ptr d => uptoBulk d + 1
  | .slice elems spare => uptoBulkAll elems + uptoBulkAll spare + 1
  | .agg parts => uptoBulkAll parts + 1
  | .iface _ d => uptoBulk d + 1
  | .map entries => uptoBulkEntries entries + 1
  | .held _ => 1
def uptoBulkAll {H : Type} : List (DataW H) → Nat
  | [] => 0
  | d :: r => uptoBulk d + uptoBulkAll r
def uptoBulkEntries {H : Type} : List (Lit × DataW H) → Nat
  | [] => 0
  | x :: r => uptoBulkEntry x + uptoBulkEntries r
def uptoBulkEntry {H : Type} : Lit × DataW H → Nat
  | (.string bytes, d) => bytes.length + uptoBulk d + 1
  | (_, d) => uptoBulk d + 1
 end
def uptoSmall : (H : Type) → List (DataW H) → Bool := fun _ ds => decide (uptoBulkAll ds ≤ 1048576)
def OpenSpec.upto (s : _root_.Go.ChangeSpec) : _root_.Go.OpenSpec := { _root_.Go.OpenSpec.ofChange s with cond := some uptoSmall }

/-- 'panachelaw05.RivetOpens', WHERE WHAT IT READS IS OF BULK AT MOST 1048576: true; the input reads as it did. -/
def rivetOpensUptoRow : OpenClaim := { program := "ytmdonphignifoaagreat", sum := "7a500f08128412abab8bd92267dfe99d9c0316951d90cc99c1547ab966dfec72", func := "panache/panachelaw05.RivetOpens", spec := "rivetOpens", unfollowed := true, recurses := true, apart := false, narrowed := true }
def RivetOpensUptoSaid : Prop := rivetOpensUptoRow.holds Tryz.pinned (OpenSpec.upto rivetOpensSpec)

/-- 'panachelaw05.RivetWidens', WHERE WHAT IT READS IS OF BULK AT MOST 1048576: true; the input reads as it did. -/
def rivetWidensUptoRow : OpenClaim := { program := "ytmdonphignifoaagreat", sum := "7a500f08128412abab8bd92267dfe99d9c0316951d90cc99c1547ab966dfec72", func := "panache/panachelaw05.RivetWidens", spec := "rivetWidens", unfollowed := true, recurses := true, apart := false, narrowed := true }
def RivetWidensUptoSaid : Prop := rivetWidensUptoRow.holds Tryz.pinned (OpenSpec.upto rivetWidensSpec)

/-- 'panachelaw05.RivetWrongs', WHERE WHAT IT READS IS OF BULK AT MOST 1048576: true; the input reads as it did. -/
def rivetWrongsUptoRow : OpenClaim := { program := "ytmdonphignifoaagreat", sum := "7a500f08128412abab8bd92267dfe99d9c0316951d90cc99c1547ab966dfec72", func := "panache/panachelaw05.RivetWrongs", spec := "rivetWrongs", unfollowed := true, recurses := true, apart := false, narrowed := true }
def RivetWrongsUptoSaid : Prop := rivetWrongsUptoRow.holds Tryz.pinned (OpenSpec.upto rivetWrongsSpec)

/-- 'panachelaw05.RivetSticks', WHERE WHAT IT READS IS OF BULK AT MOST 1048576: true; the input reads as it did. -/
def rivetSticksUptoRow : OpenClaim := { program := "ytmdonphignifoaagreat", sum := "7a500f08128412abab8bd92267dfe99d9c0316951d90cc99c1547ab966dfec72", func := "panache/panachelaw05.RivetSticks", spec := "rivetSticks", unfollowed := true, recurses := true, apart := false, narrowed := true }
def RivetSticksUptoSaid : Prop := rivetSticksUptoRow.holds Tryz.pinned (OpenSpec.upto rivetSticksSpec)

/-- 'panachelaw05.RivetPleats', WHERE WHAT IT READS IS OF BULK AT MOST 1048576: true; the input reads as it did. -/
def rivetPleatsUptoRow : OpenClaim := { program := "ytmdonphignifoaagreat", sum := "7a500f08128412abab8bd92267dfe99d9c0316951d90cc99c1547ab966dfec72", func := "panache/panachelaw05.RivetPleats", spec := "rivetPleats", unfollowed := true, recurses := true, apart := false, narrowed := true }
def RivetPleatsUptoSaid : Prop := rivetPleatsUptoRow.holds Tryz.pinned (OpenSpec.upto rivetPleatsSpec)

/-- 'panachelaw05.RivetTurns', WHERE WHAT IT READS IS OF BULK AT MOST 1048576: true; the input reads as it did. -/
def rivetTurnsUptoRow : OpenClaim := { program := "ytmdonphignifoaagreat", sum := "7a500f08128412abab8bd92267dfe99d9c0316951d90cc99c1547ab966dfec72", func := "panache/panachelaw05.RivetTurns", spec := "rivetTurns", unfollowed := true, recurses := true, apart := false, narrowed := true }
def RivetTurnsUptoSaid : Prop := rivetTurnsUptoRow.holds Tryz.pinned (OpenSpec.upto rivetTurnsSpec)

/-- 'panachelaw05.RivetCompares', WHERE WHAT IT READS IS OF BULK AT MOST 1048576: true; the input reads as it did. -/
def rivetComparesUptoRow : OpenClaim := { program := "ytmdonphignifoaagreat", sum := "7a500f08128412abab8bd92267dfe99d9c0316951d90cc99c1547ab966dfec72", func := "panache/panachelaw05.RivetCompares", spec := "rivetCompares", unfollowed := true, recurses := true, apart := false, narrowed := true }
def RivetComparesUptoSaid : Prop := rivetComparesUptoRow.holds Tryz.pinned (OpenSpec.upto rivetComparesSpec)

end Rows
end Go.Proofs.YtmdonphignifoaaGreat

/-
  No cell of these rows narrows 'for every input' (looked for: loops, veiled, ifaces, maps, wideKeys, modest, calm, conditions, laid).
  DERIVED. THE GIVEN ROWS OF THIS SEAT. 7 by the template 'for every input the law returns true; each argument reads behind the call as it read before'; 0 by the template 'total and deterministic' (their statements: YtjodaapkfknfnaaTotals.lean).
  GIVEN WITH THE SEED: the statements are not yours to turn. If you find one false, say at which input.
  Laid BY PROGRAM, IN A SANDBOX (cutbox-rows.mjs): the forced cells as the released guide's own fill.sh prints them over the translation eb5f96d113bd141d… (all of the seat's roots in one cut). By AI agents, Wed Nov 11 2026. No macro, syntax, notation, axiom, sorry.
-/
import Derived.Test.YtjodaapkfknfnaaChecked
import GoSem.Claim
import GoSem.ClaimJoined
import GoSem.ClaimMapViews
import Derived.JoinedTies
import Derived.KernelRfl
namespace Go.Proofs.Ytjodaapkfknfnaa
/- THE CELL 'sum', in the pinned program and in every row, IS THE sha256 OF THE DUMP (.gsa) THAT YtjodaapkfknfnaaProg.lean LOADS. Nothing in Lean hashes anything: it is a label: what it is worth is what the hold of that sum in a sandbox is worth. -/
noncomputable def Try.pinned : Pinned := { name := "ytjodaapkfknfnaa", sum := "eb5f96d113bd141dc927d0a735f863d250972fc60cf1b7d9001a236ebe84c9b2", checked := Try.checked }
namespace Rows
def none {H : Type} : Left H := { results := [], args := [] }

/-- 'laws.FnMarked': WHATEVER THE INPUT: true; the input reads as it did. -/
def fnMarkedSpec : ChangeSpec := { name := "fnMarked", fn := fun _ => fun
  | [d] => { results := [.lit (.bool true)], args := [d] }
  | _ => none }
def fnMarkedRow : OpenClaim := { program := "ytjodaapkfknfnaa", sum := "eb5f96d113bd141dc927d0a735f863d250972fc60cf1b7d9001a236ebe84c9b2", func := "loop.example/g00181/laws.FnMarked", spec := "fnMarked", unfollowed := true, recurses := true, apart := false }
def FnMarkedSaid : Prop := fnMarkedRow.holds Try.pinned (OpenSpec.ofChange fnMarkedSpec)

/-- ITS FALSE NEIGHBOUR: 'it returns false'. Refute it at one input. -/
def fnMarkedWrong : ChangeSpec := { name := "fnMarked", fn := fun _ => fun
  | [d] => { results := [.lit (.bool false)], args := [d] }
  | _ => none }
def FnMarkedWrongFalsely : Prop := fnMarkedRow.holds Try.pinned (OpenSpec.ofChange fnMarkedWrong)

/-- 'laws.FnGarbage': WHATEVER THE INPUT: true; the input reads as it did. -/
def fnGarbageSpec : ChangeSpec := { name := "fnGarbage", fn := fun _ => fun
  | [d] => { results := [.lit (.bool true)], args := [d] }
  | _ => none }
def fnGarbageRow : OpenClaim := { program := "ytjodaapkfknfnaa", sum := "eb5f96d113bd141dc927d0a735f863d250972fc60cf1b7d9001a236ebe84c9b2", func := "loop.example/g00181/laws.FnGarbage", spec := "fnGarbage", unfollowed := true, recurses := true, apart := false }
def FnGarbageSaid : Prop := fnGarbageRow.holds Try.pinned (OpenSpec.ofChange fnGarbageSpec)

/-- ITS FALSE NEIGHBOUR: 'it returns false'. Refute it at one input. -/
def fnGarbageWrong : ChangeSpec := { name := "fnGarbage", fn := fun _ => fun
  | [d] => { results := [.lit (.bool false)], args := [d] }
  | _ => none }
def FnGarbageWrongFalsely : Prop := fnGarbageRow.holds Try.pinned (OpenSpec.ofChange fnGarbageWrong)

/-- 'laws.FnLocked': WHATEVER THE INPUT: true; the input reads as it did. -/
def fnLockedSpec : ChangeSpec := { name := "fnLocked", fn := fun _ => fun
  | [d] => { results := [.lit (.bool true)], args := [d] }
  | _ => none }
def fnLockedRow : OpenClaim := { program := "ytjodaapkfknfnaa", sum := "eb5f96d113bd141dc927d0a735f863d250972fc60cf1b7d9001a236ebe84c9b2", func := "loop.example/g00181/laws.FnLocked", spec := "fnLocked", unfollowed := true, recurses := true, apart := false }
def FnLockedSaid : Prop := fnLockedRow.holds Try.pinned (OpenSpec.ofChange fnLockedSpec)

/-- ITS FALSE NEIGHBOUR: 'it returns false'. Refute it at one input. -/
def fnLockedWrong : ChangeSpec := { name := "fnLocked", fn := fun _ => fun
  | [d] => { results := [.lit (.bool false)], args := [d] }
  | _ => none }
def FnLockedWrongFalsely : Prop := fnLockedRow.holds Try.pinned (OpenSpec.ofChange fnLockedWrong)

/-- 'laws.FnExactDropAll': WHATEVER THE INPUT: true; the input reads as it did. -/
def fnExactDropAllSpec : ChangeSpec := { name := "fnExactDropAll", fn := fun _ => fun
  | [d1, d2] => { results := [.lit (.bool true)], args := [d1, d2] }
  | _ => none }
def fnExactDropAllRow : OpenClaim := { program := "ytjodaapkfknfnaa", sum := "eb5f96d113bd141dc927d0a735f863d250972fc60cf1b7d9001a236ebe84c9b2", func := "loop.example/g00181/laws.FnExactDropAll", spec := "fnExactDropAll", unfollowed := true, recurses := true, apart := false }
def FnExactDropAllSaid : Prop := fnExactDropAllRow.holds Try.pinned (OpenSpec.ofChange fnExactDropAllSpec)

/-- ITS FALSE NEIGHBOUR: 'it returns false'. Refute it at one input. -/
def fnExactDropAllWrong : ChangeSpec := { name := "fnExactDropAll", fn := fun _ => fun
  | [d1, d2] => { results := [.lit (.bool false)], args := [d1, d2] }
  | _ => none }
def FnExactDropAllWrongFalsely : Prop := fnExactDropAllRow.holds Try.pinned (OpenSpec.ofChange fnExactDropAllWrong)

/-- 'laws.FnDropped': WHATEVER THE INPUT: true; the input reads as it did. -/
def fnDroppedSpec : ChangeSpec := { name := "fnDropped", fn := fun _ => fun
  | [d] => { results := [.lit (.bool true)], args := [d] }
  | _ => none }
def fnDroppedRow : OpenClaim := { program := "ytjodaapkfknfnaa", sum := "eb5f96d113bd141dc927d0a735f863d250972fc60cf1b7d9001a236ebe84c9b2", func := "loop.example/g00181/laws.FnDropped", spec := "fnDropped", unfollowed := true, recurses := true, apart := false }
def FnDroppedSaid : Prop := fnDroppedRow.holds Try.pinned (OpenSpec.ofChange fnDroppedSpec)

/-- ITS FALSE NEIGHBOUR: 'it returns false'. Refute it at one input. -/
def fnDroppedWrong : ChangeSpec := { name := "fnDropped", fn := fun _ => fun
  | [d] => { results := [.lit (.bool false)], args := [d] }
  | _ => none }
def FnDroppedWrongFalsely : Prop := fnDroppedRow.holds Try.pinned (OpenSpec.ofChange fnDroppedWrong)

/-- 'laws.FnExactView': WHATEVER THE INPUT: true; the input reads as it did. -/
def fnExactViewSpec : ChangeSpec := { name := "fnExactView", fn := fun _ => fun
  | [d] => { results := [.lit (.bool true)], args := [d] }
  | _ => none }
def fnExactViewRow : OpenClaim := { program := "ytjodaapkfknfnaa", sum := "eb5f96d113bd141dc927d0a735f863d250972fc60cf1b7d9001a236ebe84c9b2", func := "loop.example/g00181/laws.FnExactView", spec := "fnExactView", unfollowed := true, recurses := true, apart := false }
def FnExactViewSaid : Prop := fnExactViewRow.holds Try.pinned (OpenSpec.ofChange fnExactViewSpec)

/-- ITS FALSE NEIGHBOUR: 'it returns false'. Refute it at one input. -/
def fnExactViewWrong : ChangeSpec := { name := "fnExactView", fn := fun _ => fun
  | [d] => { results := [.lit (.bool false)], args := [d] }
  | _ => none }
def FnExactViewWrongFalsely : Prop := fnExactViewRow.holds Try.pinned (OpenSpec.ofChange fnExactViewWrong)

/-- 'laws.FnExactUnheld': WHATEVER THE INPUT: true; the input reads as it did. -/
def fnExactUnheldSpec : ChangeSpec := { name := "fnExactUnheld", fn := fun _ => fun
  | [d] => { results := [.lit (.bool true)], args := [d] }
  | _ => none }
def fnExactUnheldRow : OpenClaim := { program := "ytjodaapkfknfnaa", sum := "eb5f96d113bd141dc927d0a735f863d250972fc60cf1b7d9001a236ebe84c9b2", func := "loop.example/g00181/laws.FnExactUnheld", spec := "fnExactUnheld", unfollowed := true, recurses := true, apart := false }
def FnExactUnheldSaid : Prop := fnExactUnheldRow.holds Try.pinned (OpenSpec.ofChange fnExactUnheldSpec)

/-- ITS FALSE NEIGHBOUR: 'it returns false'. Refute it at one input. -/
def fnExactUnheldWrong : ChangeSpec := { name := "fnExactUnheld", fn := fun _ => fun
  | [d] => { results := [.lit (.bool false)], args := [d] }
  | _ => none }
def FnExactUnheldWrongFalsely : Prop := fnExactUnheldRow.holds Try.pinned (OpenSpec.ofChange fnExactUnheldWrong)

/- THE SECOND FORM. 'bulk': how many values and letters a reading holds, each counted each time it is reached (what is shared counts as often as it is met; a slice's spare places count too). A statement '..UptoSaid' is the law's where the arguments, and the package variables that the reading takes, are together of bulk at most 1048576: NARROWER than '..Said'. Prove '..Said' where nothing that the law and all that it calls make is longer than what came in: it says more and counts as full. Else prove '..UptoSaid'. A law counts once. -/
mutual
def uptoBulk {H : Type} : DataW H → Nat
  | .lit (.string bytes) => bytes.length + 1
  | .lit _ => 1
  | .nil => 1
  | .ptr d => uptoBulk d + 1
  | .slice elems spare => uptoBulkAll elems + uptoBulkAll spare + 1
  | .agg parts => uptoBulkAll parts + 1
  | .iface _ d => uptoBulk d + 1
  | .map entries => uptoBulkEntries entries + 1
  | .held _ => 1
def uptoBulkAll {H : Type} : List (DataW H) → Nat
  | [] => 0
  | d :: r => uptoBulk d + uptoBulkAll r
def uptoBulkEntries {H : Type} : List (Lit × DataW H) → Nat
  | [] => 0
  | x :: r => uptoBulkEntry x + uptoBulkEntries r
def uptoBulkEntry {H : Type} : Lit × DataW H → Nat
  | (.string bytes, d) => bytes.length + uptoBulk d + 1
  | (_, d) => uptoBulk d + 1
 end
def uptoSmall : (H : Type) → List (DataW H) → Bool := fun _ ds => decide (uptoBulkAll ds ≤ 1048576)
def OpenSpec.upto (s : _root_.Go.ChangeSpec) : _root_.Go.OpenSpec := { _root_.Go.OpenSpec.ofChange s with cond := some uptoSmall }

/-- 'laws.FnMarked', WHERE WHAT IT READS IS OF BULK AT MOST 1048576: true; the input reads as it did. -/
def fnMarkedUptoRow : OpenClaim := { program := "ytjodaapkfknfnaa", sum := "eb5f96d113bd141dc927d0a735f863d250972fc60cf1b7d9001a236ebe84c9b2", func := "loop.example/g00181/laws.FnMarked", spec := "fnMarked", unfollowed := true, recurses := true, apart := false, narrowed := true }
def FnMarkedUptoSaid : Prop := fnMarkedUptoRow.holds Try.pinned (OpenSpec.upto fnMarkedSpec)

/-- 'laws.FnGarbage', WHERE WHAT IT READS IS OF BULK AT MOST 1048576: true; the input reads as it did. -/
def fnGarbageUptoRow : OpenClaim := { program := "ytjodaapkfknfnaa", sum := "eb5f96d113bd141dc927d0a735f863d250972fc60cf1b7d9001a236ebe84c9b2", func := "loop.example/g00181/laws.FnGarbage", spec := "fnGarbage", unfollowed := true, recurses := true, apart := false, narrowed := true }
def FnGarbageUptoSaid : Prop := fnGarbageUptoRow.holds Try.pinned (OpenSpec.upto fnGarbageSpec)

/-- 'laws.FnLocked', WHERE WHAT IT READS IS OF BULK AT MOST 1048576: true; the input reads as it did. -/
def fnLockedUptoRow : OpenClaim := { program := "ytjodaapkfknfnaa", sum := "eb5f96d113bd141dc927d0a735f863d250972fc60cf1b7d9001a236ebe84c9b2", func := "loop.example/g00181/laws.FnLocked", spec := "fnLocked", unfollowed := true, recurses := true, apart := false, narrowed := true }
def FnLockedUptoSaid : Prop := fnLockedUptoRow.holds Try.pinned (OpenSpec.upto fnLockedSpec)

/-- 'laws.FnExactDropAll', WHERE WHAT IT READS IS OF BULK AT MOST 1048576: true; the input reads as it did. -/
def fnExactDropAllUptoRow : OpenClaim := { program := "ytjodaapkfknfnaa", sum := "eb5f96d113bd141dc927d0a735f863d250972fc60cf1b7d9001a236ebe84c9b2", func := "loop.example/g00181/laws.FnExactDropAll", spec := "fnExactDropAll", unfollowed := true, recurses := true, apart := false, narrowed := true }
def FnExactDropAllUptoSaid : Prop := fnExactDropAllUptoRow.holds Try.pinned (OpenSpec.upto fnExactDropAllSpec)

/-- 'laws.FnDropped', WHERE WHAT IT READS IS OF BULK AT MOST 1048576: true; the input reads as it did. -/
def fnDroppedUptoRow : OpenClaim := { program := "ytjodaapkfknfnaa", sum := "eb5f96d113bd141dc927d0a735f863d250972fc60cf1b7d9001a236ebe84c9b2", func := "loop.example/g00181/laws.FnDropped", spec := "fnDropped", unfollowed := true, recurses := true, apart := false, narrowed := true }
def FnDroppedUptoSaid : Prop := fnDroppedUptoRow.holds Try.pinned (OpenSpec.upto fnDroppedSpec)

/-- 'laws.FnExactView', WHERE WHAT IT READS IS OF BULK AT MOST 1048576: true; the input reads as it did. -/
def fnExactViewUptoRow : OpenClaim := { program := "ytjodaapkfknfnaa", sum := "eb5f96d113bd141dc927d0a735f863d250972fc60cf1b7d9001a236ebe84c9b2", func := "loop.example/g00181/laws.FnExactView", spec := "fnExactView", unfollowed := true, recurses := true, apart := false, narrowed := true }
def FnExactViewUptoSaid : Prop := fnExactViewUptoRow.holds Try.pinned (OpenSpec.upto fnExactViewSpec)

/-- 'laws.FnExactUnheld', WHERE WHAT IT READS IS OF BULK AT MOST 1048576: true; the input reads as it did. -/
def fnExactUnheldUptoRow : OpenClaim := { program := "ytjodaapkfknfnaa", sum := "eb5f96d113bd141dc927d0a735f863d250972fc60cf1b7d9001a236ebe84c9b2", func := "loop.example/g00181/laws.FnExactUnheld", spec := "fnExactUnheld", unfollowed := true, recurses := true, apart := false, narrowed := true }
def FnExactUnheldUptoSaid : Prop := fnExactUnheldUptoRow.holds Try.pinned (OpenSpec.upto fnExactUnheldSpec)

end Rows
end Go.Proofs.Ytjodaapkfknfnaa

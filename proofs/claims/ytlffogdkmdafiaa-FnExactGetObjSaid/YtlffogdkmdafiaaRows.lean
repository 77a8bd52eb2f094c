/-
  No cell of these rows narrows 'for every input' (looked for: loops, veiled, ifaces, maps, wideKeys, modest, calm, conditions, laid).
  DERIVED. THE GIVEN ROWS OF THIS SEAT. 11 by the template 'for every input the law returns true; each argument reads behind the call as it read before'; 0 by the template 'total and deterministic' (their statements: YtlffogdkmdafiaaTotals.lean).
  GIVEN WITH THE SEED: the statements are not yours to turn. If you find one false, say at which input.
  Laid BY PROGRAM, IN A SANDBOX (cutbox-rows.mjs): the forced cells as the released guide's own fill.sh prints them over the translation 94b7d18ff7e97193… (all of the seat's roots in one cut). By AI agents, Wed Nov 11 2026. No macro, syntax, notation, axiom, sorry.
-/
import Derived.Test.YtlffogdkmdafiaaChecked
import GoSem.Claim
import GoSem.ClaimJoined
import GoSem.ClaimMapViews
import Derived.JoinedTies
import Derived.KernelRfl
namespace Go.Proofs.Ytlffogdkmdafiaa
/- THE CELL 'sum', in the pinned program and in every row, IS THE sha256 OF THE DUMP (.gsa) THAT YtlffogdkmdafiaaProg.lean LOADS. Nothing in Lean hashes anything: it is a label: what it is worth is what the hold of that sum in a sandbox is worth. -/
noncomputable def Try.pinned : Pinned := { name := "ytlffogdkmdafiaa", sum := "94b7d18ff7e971930009e5f2265f1517f92b62659f25ba9511ff19eb0f5279ce", checked := Try.checked }
namespace Rows
def none {H : Type} : Left H := { results := [], args := [] }

/-- 'laws.FnGarbage': WHATEVER THE INPUT: true; the input reads as it did. -/
def fnGarbageSpec : ChangeSpec := { name := "fnGarbage", fn := fun _ => fun
  | [d] => { results := [.lit (.bool true)], args := [d] }
  | _ => none }
def fnGarbageRow : OpenClaim := { program := "ytlffogdkmdafiaa", sum := "94b7d18ff7e971930009e5f2265f1517f92b62659f25ba9511ff19eb0f5279ce", func := "loop.example/g00181/laws.FnGarbage", spec := "fnGarbage", unfollowed := true, recurses := true, apart := false }
def FnGarbageSaid : Prop := fnGarbageRow.holds Try.pinned (OpenSpec.ofChange fnGarbageSpec)

/-- ITS FALSE NEIGHBOUR: 'it returns false'. Refute it at one input. -/
def fnGarbageWrong : ChangeSpec := { name := "fnGarbage", fn := fun _ => fun
  | [d] => { results := [.lit (.bool false)], args := [d] }
  | _ => none }
def FnGarbageWrongFalsely : Prop := fnGarbageRow.holds Try.pinned (OpenSpec.ofChange fnGarbageWrong)

/-- 'laws.FnMarked': WHATEVER THE INPUT: true; the input reads as it did. -/
def fnMarkedSpec : ChangeSpec := { name := "fnMarked", fn := fun _ => fun
  | [d] => { results := [.lit (.bool true)], args := [d] }
  | _ => none }
def fnMarkedRow : OpenClaim := { program := "ytlffogdkmdafiaa", sum := "94b7d18ff7e971930009e5f2265f1517f92b62659f25ba9511ff19eb0f5279ce", func := "loop.example/g00181/laws.FnMarked", spec := "fnMarked", unfollowed := true, recurses := true, apart := false }
def FnMarkedSaid : Prop := fnMarkedRow.holds Try.pinned (OpenSpec.ofChange fnMarkedSpec)

/-- ITS FALSE NEIGHBOUR: 'it returns false'. Refute it at one input. -/
def fnMarkedWrong : ChangeSpec := { name := "fnMarked", fn := fun _ => fun
  | [d] => { results := [.lit (.bool false)], args := [d] }
  | _ => none }
def FnMarkedWrongFalsely : Prop := fnMarkedRow.holds Try.pinned (OpenSpec.ofChange fnMarkedWrong)

/-- 'laws.FnExactDangling': WHATEVER THE INPUT: true; the input reads as it did. -/
def fnExactDanglingSpec : ChangeSpec := { name := "fnExactDangling", fn := fun _ => fun
  | [d] => { results := [.lit (.bool true)], args := [d] }
  | _ => none }
def fnExactDanglingRow : OpenClaim := { program := "ytlffogdkmdafiaa", sum := "94b7d18ff7e971930009e5f2265f1517f92b62659f25ba9511ff19eb0f5279ce", func := "loop.example/g00181/laws.FnExactDangling", spec := "fnExactDangling", unfollowed := true, recurses := true, apart := false }
def FnExactDanglingSaid : Prop := fnExactDanglingRow.holds Try.pinned (OpenSpec.ofChange fnExactDanglingSpec)

/-- ITS FALSE NEIGHBOUR: 'it returns false'. Refute it at one input. -/
def fnExactDanglingWrong : ChangeSpec := { name := "fnExactDangling", fn := fun _ => fun
  | [d] => { results := [.lit (.bool false)], args := [d] }
  | _ => none }
def FnExactDanglingWrongFalsely : Prop := fnExactDanglingRow.holds Try.pinned (OpenSpec.ofChange fnExactDanglingWrong)

/-- 'laws.FnExactGarbage': WHATEVER THE INPUT: true; the input reads as it did. -/
def fnExactGarbageSpec : ChangeSpec := { name := "fnExactGarbage", fn := fun _ => fun
  | [d1, d2] => { results := [.lit (.bool true)], args := [d1, d2] }
  | _ => none }
def fnExactGarbageRow : OpenClaim := { program := "ytlffogdkmdafiaa", sum := "94b7d18ff7e971930009e5f2265f1517f92b62659f25ba9511ff19eb0f5279ce", func := "loop.example/g00181/laws.FnExactGarbage", spec := "fnExactGarbage", unfollowed := true, recurses := true, apart := false }
def FnExactGarbageSaid : Prop := fnExactGarbageRow.holds Try.pinned (OpenSpec.ofChange fnExactGarbageSpec)

/-- ITS FALSE NEIGHBOUR: 'it returns false'. Refute it at one input. -/
def fnExactGarbageWrong : ChangeSpec := { name := "fnExactGarbage", fn := fun _ => fun
  | [d1, d2] => { results := [.lit (.bool false)], args := [d1, d2] }
  | _ => none }
def FnExactGarbageWrongFalsely : Prop := fnExactGarbageRow.holds Try.pinned (OpenSpec.ofChange fnExactGarbageWrong)

/-- 'laws.FnExactReach': WHATEVER THE INPUT: true; the input reads as it did. -/
def fnExactReachSpec : ChangeSpec := { name := "fnExactReach", fn := fun _ => fun
  | [d1, d2] => { results := [.lit (.bool true)], args := [d1, d2] }
  | _ => none }
def fnExactReachRow : OpenClaim := { program := "ytlffogdkmdafiaa", sum := "94b7d18ff7e971930009e5f2265f1517f92b62659f25ba9511ff19eb0f5279ce", func := "loop.example/g00181/laws.FnExactReach", spec := "fnExactReach", unfollowed := true, recurses := true, apart := false }
def FnExactReachSaid : Prop := fnExactReachRow.holds Try.pinned (OpenSpec.ofChange fnExactReachSpec)

/-- ITS FALSE NEIGHBOUR: 'it returns false'. Refute it at one input. -/
def fnExactReachWrong : ChangeSpec := { name := "fnExactReach", fn := fun _ => fun
  | [d1, d2] => { results := [.lit (.bool false)], args := [d1, d2] }
  | _ => none }
def FnExactReachWrongFalsely : Prop := fnExactReachRow.holds Try.pinned (OpenSpec.ofChange fnExactReachWrong)

/-- 'laws.FnExactGetObj': WHATEVER THE INPUT: true; the input reads as it did. -/
def fnExactGetObjSpec : ChangeSpec := { name := "fnExactGetObj", fn := fun _ => fun
  | [d] => { results := [.lit (.bool true)], args := [d] }
  | _ => none }
def fnExactGetObjRow : OpenClaim := { program := "ytlffogdkmdafiaa", sum := "94b7d18ff7e971930009e5f2265f1517f92b62659f25ba9511ff19eb0f5279ce", func := "loop.example/g00181/laws.FnExactGetObj", spec := "fnExactGetObj", unfollowed := true, recurses := true, apart := false }
def FnExactGetObjSaid : Prop := fnExactGetObjRow.holds Try.pinned (OpenSpec.ofChange fnExactGetObjSpec)

/-- ITS FALSE NEIGHBOUR: 'it returns false'. Refute it at one input. -/
def fnExactGetObjWrong : ChangeSpec := { name := "fnExactGetObj", fn := fun _ => fun
  | [d] => { results := [.lit (.bool false)], args := [d] }
  | _ => none }
def FnExactGetObjWrongFalsely : Prop := fnExactGetObjRow.holds Try.pinned (OpenSpec.ofChange fnExactGetObjWrong)

/-- 'laws.FnLocked': WHATEVER THE INPUT: true; the input reads as it did. -/
def fnLockedSpec : ChangeSpec := { name := "fnLocked", fn := fun _ => fun
  | [d] => { results := [.lit (.bool true)], args := [d] }
  | _ => none }
def fnLockedRow : OpenClaim := { program := "ytlffogdkmdafiaa", sum := "94b7d18ff7e971930009e5f2265f1517f92b62659f25ba9511ff19eb0f5279ce", func := "loop.example/g00181/laws.FnLocked", spec := "fnLocked", unfollowed := true, recurses := true, apart := false }
def FnLockedSaid : Prop := fnLockedRow.holds Try.pinned (OpenSpec.ofChange fnLockedSpec)

/-- ITS FALSE NEIGHBOUR: 'it returns false'. Refute it at one input. -/
def fnLockedWrong : ChangeSpec := { name := "fnLocked", fn := fun _ => fun
  | [d] => { results := [.lit (.bool false)], args := [d] }
  | _ => none }
def FnLockedWrongFalsely : Prop := fnLockedRow.holds Try.pinned (OpenSpec.ofChange fnLockedWrong)

/-- 'laws.FnExactMark': WHATEVER THE INPUT: true; the input reads as it did. -/
def fnExactMarkSpec : ChangeSpec := { name := "fnExactMark", fn := fun _ => fun
  | [d1, d2, d3] => { results := [.lit (.bool true)], args := [d1, d2, d3] }
  | _ => none }
def fnExactMarkRow : OpenClaim := { program := "ytlffogdkmdafiaa", sum := "94b7d18ff7e971930009e5f2265f1517f92b62659f25ba9511ff19eb0f5279ce", func := "loop.example/g00181/laws.FnExactMark", spec := "fnExactMark", unfollowed := true, recurses := true, apart := false }
def FnExactMarkSaid : Prop := fnExactMarkRow.holds Try.pinned (OpenSpec.ofChange fnExactMarkSpec)

/-- ITS FALSE NEIGHBOUR: 'it returns false'. Refute it at one input. -/
def fnExactMarkWrong : ChangeSpec := { name := "fnExactMark", fn := fun _ => fun
  | [d1, d2, d3] => { results := [.lit (.bool false)], args := [d1, d2, d3] }
  | _ => none }
def FnExactMarkWrongFalsely : Prop := fnExactMarkRow.holds Try.pinned (OpenSpec.ofChange fnExactMarkWrong)

/-- 'laws.FnExactDump': WHATEVER THE INPUT: true; the input reads as it did. -/
def fnExactDumpSpec : ChangeSpec := { name := "fnExactDump", fn := fun _ => fun
  | [d] => { results := [.lit (.bool true)], args := [d] }
  | _ => none }
def fnExactDumpRow : OpenClaim := { program := "ytlffogdkmdafiaa", sum := "94b7d18ff7e971930009e5f2265f1517f92b62659f25ba9511ff19eb0f5279ce", func := "loop.example/g00181/laws.FnExactDump", spec := "fnExactDump", unfollowed := true, recurses := true, apart := false }
def FnExactDumpSaid : Prop := fnExactDumpRow.holds Try.pinned (OpenSpec.ofChange fnExactDumpSpec)

/-- ITS FALSE NEIGHBOUR: 'it returns false'. Refute it at one input. -/
def fnExactDumpWrong : ChangeSpec := { name := "fnExactDump", fn := fun _ => fun
  | [d] => { results := [.lit (.bool false)], args := [d] }
  | _ => none }
def FnExactDumpWrongFalsely : Prop := fnExactDumpRow.holds Try.pinned (OpenSpec.ofChange fnExactDumpWrong)

/-- 'laws.FnExactDropAll': WHATEVER THE INPUT: true; the input reads as it did. -/
def fnExactDropAllSpec : ChangeSpec := { name := "fnExactDropAll", fn := fun _ => fun
  | [d1, d2] => { results := [.lit (.bool true)], args := [d1, d2] }
  | _ => none }
def fnExactDropAllRow : OpenClaim := { program := "ytlffogdkmdafiaa", sum := "94b7d18ff7e971930009e5f2265f1517f92b62659f25ba9511ff19eb0f5279ce", func := "loop.example/g00181/laws.FnExactDropAll", spec := "fnExactDropAll", unfollowed := true, recurses := true, apart := false }
def FnExactDropAllSaid : Prop := fnExactDropAllRow.holds Try.pinned (OpenSpec.ofChange fnExactDropAllSpec)

/-- ITS FALSE NEIGHBOUR: 'it returns false'. Refute it at one input. -/
def fnExactDropAllWrong : ChangeSpec := { name := "fnExactDropAll", fn := fun _ => fun
  | [d1, d2] => { results := [.lit (.bool false)], args := [d1, d2] }
  | _ => none }
def FnExactDropAllWrongFalsely : Prop := fnExactDropAllRow.holds Try.pinned (OpenSpec.ofChange fnExactDropAllWrong)

/-- 'laws.FnDropped': WHATEVER THE INPUT: true; the input reads as it did. -/
def fnDroppedSpec : ChangeSpec := { name := "fnDropped", fn := fun _ => fun
  | [d] => { results := [.lit (.bool true)], args := [d] }
  | _ => none }
def fnDroppedRow : OpenClaim := { program := "ytlffogdkmdafiaa", sum := "94b7d18ff7e971930009e5f2265f1517f92b62659f25ba9511ff19eb0f5279ce", func := "loop.example/g00181/laws.FnDropped", spec := "fnDropped", unfollowed := true, recurses := true, apart := false }
def FnDroppedSaid : Prop := fnDroppedRow.holds Try.pinned (OpenSpec.ofChange fnDroppedSpec)

/-- ITS FALSE NEIGHBOUR: 'it returns false'. Refute it at one input. -/
def fnDroppedWrong : ChangeSpec := { name := "fnDropped", fn := fun _ => fun
  | [d] => { results := [.lit (.bool false)], args := [d] }
  | _ => none }
def FnDroppedWrongFalsely : Prop := fnDroppedRow.holds Try.pinned (OpenSpec.ofChange fnDroppedWrong)

/- THE SECOND FORM. 'bulk': how many values and letters a reading holds, each counted each time it is reached (what is shared counts as often as it is met; a slice's spare places count too). A statement '..UptoSaid' is the law's where the arguments, and the package variables that the reading takes, are together of bulk at most 1048576: NARROWER than '..Said'. Prove '..Said' where nothing that the law and all that it calls make is longer than what came in: it says more and counts as full. Else prove '..UptoSaid'. A law counts once. -/
mutual
def uptoBulk {H : Type} : DataW H → Nat
  | .lit (.string bytes) => bytes.length + 1
  | .lit _ => 1
  | .nil => 1
  | .ptr d => uptoBulk d + 1
  | .slice elems spare => uptoBulkAll elems + uptoBulkAll spare + 1
  | .agg parts => uptoBulkAll parts + 1
  | .iface _ d => uptoBulk d + 1
  | .map entries => uptoBulkEntries entries + 1
  | .held _ => 1
def uptoBulkAll {H : Type} : List (DataW H) → Nat
  | [] => 0
  | d :: r => uptoBulk d + uptoBulkAll r
def uptoBulkEntries {H : Type} : List (Lit × DataW H) → Nat
  | [] => 0
  | x :: r => uptoBulkEntry x + uptoBulkEntries r
def uptoBulkEntry {H : Type} : Lit × DataW H → Nat
  | (.string bytes, d) => bytes.length + uptoBulk d + 1
  | (_, d) => uptoBulk d + 1
 end
def uptoSmall : (H : Type) → List (DataW H) → Bool := fun _ ds => decide (uptoBulkAll ds ≤ 1048576)
def OpenSpec.upto (s : _root_.Go.ChangeSpec) : _root_.Go.OpenSpec := { _root_.Go.OpenSpec.ofChange s with cond := some uptoSmall }

/-- 'laws.FnGarbage', WHERE WHAT IT READS IS OF BULK AT MOST 1048576: true; the input reads as it did. -/
def fnGarbageUptoRow : OpenClaim := { program := "ytlffogdkmdafiaa", sum := "94b7d18ff7e971930009e5f2265f1517f92b62659f25ba9511ff19eb0f5279ce", func := "loop.example/g00181/laws.FnGarbage", spec := "fnGarbage", unfollowed := true, recurses := true, apart := false, narrowed := true }
def FnGarbageUptoSaid : Prop := fnGarbageUptoRow.holds Try.pinned (OpenSpec.upto fnGarbageSpec)

/-- 'laws.FnMarked', WHERE WHAT IT READS IS OF BULK AT MOST 1048576: true; the input reads as it did. -/
def fnMarkedUptoRow : OpenClaim := { program := "ytlffogdkmdafiaa", sum := "94b7d18ff7e971930009e5f2265f1517f92b62659f25ba9511ff19eb0f5279ce", func := "loop.example/g00181/laws.FnMarked", spec := "fnMarked", unfollowed := true, recurses := true, apart := false, narrowed := true }
def FnMarkedUptoSaid : Prop := fnMarkedUptoRow.holds Try.pinned (OpenSpec.upto fnMarkedSpec)

/-- 'laws.FnExactDangling', WHERE WHAT IT READS IS OF BULK AT MOST 1048576: true; the input reads as it did. -/
def fnExactDanglingUptoRow : OpenClaim := { program := "ytlffogdkmdafiaa", sum := "94b7d18ff7e971930009e5f2265f1517f92b62659f25ba9511ff19eb0f5279ce", func := "loop.example/g00181/laws.FnExactDangling", spec := "fnExactDangling", unfollowed := true, recurses := true, apart := false, narrowed := true }
def FnExactDanglingUptoSaid : Prop := fnExactDanglingUptoRow.holds Try.pinned (OpenSpec.upto fnExactDanglingSpec)

/-- 'laws.FnExactGarbage', WHERE WHAT IT READS IS OF BULK AT MOST 1048576: true; the input reads as it did. -/
def fnExactGarbageUptoRow : OpenClaim := { program := "ytlffogdkmdafiaa", sum := "94b7d18ff7e971930009e5f2265f1517f92b62659f25ba9511ff19eb0f5279ce", func := "loop.example/g00181/laws.FnExactGarbage", spec := "fnExactGarbage", unfollowed := true, recurses := true, apart := false, narrowed := true }
def FnExactGarbageUptoSaid : Prop := fnExactGarbageUptoRow.holds Try.pinned (OpenSpec.upto fnExactGarbageSpec)

/-- 'laws.FnExactReach', WHERE WHAT IT READS IS OF BULK AT MOST 1048576: true; the input reads as it did. -/
def fnExactReachUptoRow : OpenClaim := { program := "ytlffogdkmdafiaa", sum := "94b7d18ff7e971930009e5f2265f1517f92b62659f25ba9511ff19eb0f5279ce", func := "loop.example/g00181/laws.FnExactReach", spec := "fnExactReach", unfollowed := true, recurses := true, apart := false, narrowed := true }
def FnExactReachUptoSaid : Prop := fnExactReachUptoRow.holds Try.pinned (OpenSpec.upto fnExactReachSpec)

/-- 'laws.FnExactGetObj', WHERE WHAT IT READS IS OF BULK AT MOST 1048576: true; the input reads as it did. -/
def fnExactGetObjUptoRow : OpenClaim := { program := "ytlffogdkmdafiaa", sum := "94b7d18ff7e971930009e5f2265f1517f92b62659f25ba9511ff19eb0f5279ce", func := "loop.example/g00181/laws.FnExactGetObj", spec := "fnExactGetObj", unfollowed := true, recurses := true, apart := false, narrowed := true }
def FnExactGetObjUptoSaid : Prop := fnExactGetObjUptoRow.holds Try.pinned (OpenSpec.upto fnExactGetObjSpec)

/-- 'laws.FnLocked', WHERE WHAT IT READS IS OF BULK AT MOST 1048576: true; the input reads as it did. -/
def fnLockedUptoRow : OpenClaim := { program := "ytlffogdkmdafiaa", sum := "94b7d18ff7e971930009e5f2265f1517f92b62659f25ba9511ff19eb0f5279ce", func := "loop.example/g00181/laws.FnLocked", spec := "fnLocked", unfollowed := true, recurses := true, apart := false, narrowed := true }
def FnLockedUptoSaid : Prop := fnLockedUptoRow.holds Try.pinned (OpenSpec.upto fnLockedSpec)

/-- 'laws.FnExactMark', WHERE WHAT IT READS IS OF BULK AT MOST 1048576: true; the input reads as it did. -/
def fnExactMarkUptoRow : OpenClaim := { program := "ytlffogdkmdafiaa", sum := "94b7d18ff7e971930009e5f2265f1517f92b62659f25ba9511ff19eb0f5279ce", func := "loop.example/g00181/laws.FnExactMark", spec := "fnExactMark", unfollowed := true, recurses := true, apart := false, narrowed := true }
def FnExactMarkUptoSaid : Prop := fnExactMarkUptoRow.holds Try.pinned (OpenSpec.upto fnExactMarkSpec)

/-- 'laws.FnExactDump', WHERE WHAT IT READS IS OF BULK AT MOST 1048576: true; the input reads as it did. -/
def fnExactDumpUptoRow : OpenClaim := { program := "ytlffogdkmdafiaa", sum := "94b7d18ff7e971930009e5f2265f1517f92b62659f25ba9511ff19eb0f5279ce", func := "loop.example/g00181/laws.FnExactDump", spec := "fnExactDump", unfollowed := true, recurses := true, apart := false, narrowed := true }
def FnExactDumpUptoSaid : Prop := fnExactDumpUptoRow.holds Try.pinned (OpenSpec.upto fnExactDumpSpec)

/-- 'laws.FnExactDropAll', WHERE WHAT IT READS IS OF BULK AT MOST 1048576: true; the input reads as it did. -/
def fnExactDropAllUptoRow : OpenClaim := { program := "ytlffogdkmdafiaa", sum := "94b7d18ff7e971930009e5f2265f1517f92b62659f25ba9511ff19eb0f5279ce", func := "loop.example/g00181/laws.FnExactDropAll", spec := "fnExactDropAll", unfollowed := true, recurses := true, apart := false, narrowed := true }
def FnExactDropAllUptoSaid : Prop := fnExactDropAllUptoRow.holds Try.pinned (OpenSpec.upto fnExactDropAllSpec)

/-- 'laws.FnDropped', WHERE WHAT IT READS IS OF BULK AT MOST 1048576: true; the input reads as it did. -/
def fnDroppedUptoRow : OpenClaim := { program := "ytlffogdkmdafiaa", sum := "94b7d18ff7e971930009e5f2265f1517f92b62659f25ba9511ff19eb0f5279ce", func := "loop.example/g00181/laws.FnDropped", spec := "fnDropped", unfollowed := true, recurses := true, apart := false, narrowed := true }
def FnDroppedUptoSaid : Prop := fnDroppedUptoRow.holds Try.pinned (OpenSpec.upto fnDroppedSpec)

end Rows
end Go.Proofs.Ytlffogdkmdafiaa

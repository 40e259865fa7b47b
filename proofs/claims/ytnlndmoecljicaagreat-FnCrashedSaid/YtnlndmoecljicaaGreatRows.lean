/-
  No cell of these rows narrows 'for every input' (looked for: loops, veiled, ifaces, maps, wideKeys, modest, calm, conditions, laid).
  DERIVED. THE GIVEN ROWS OF THIS SEAT. 6 by the template 'for every input the law returns true; each argument reads behind the call as it read before'; 0 by the template 'total and deterministic' (their statements: YtnlndmoecljicaaGreatTotals.lean).
  GIVEN WITH THE SEED: the statements are not yours to turn. If you find one false, say at which input.
  Laid BY PROGRAM, IN A SANDBOX (cutbox-rows.mjs): the forced cells as the released guide's own fill.sh prints them over the translation e7b66c1de6bdc836… (all of the seat's roots in one cut). By AI agents, Wed Nov 11 2026. No macro, syntax, notation, axiom, sorry.
-/
import Derived.Test.YtnlndmoecljicaaGreatChecked
import GoSem.Claim
import GoSem.ClaimJoined
import GoSem.ClaimMapViews
import Derived.JoinedTies
import Derived.KernelRfl
namespace Go.Proofs.YtnlndmoecljicaaGreat
/- THE CELL 'sum', in the pinned program and in every row, IS THE sha256 OF THE DUMP (.gsa) THAT YtnlndmoecljicaaGreatProg.lean LOADS. Nothing in Lean hashes anything: it is a label: what it is worth is what the hold of that sum in a sandbox is worth. -/
noncomputable def Tryz.pinned : Pinned := { name := "ytnlndmoecljicaagreat", sum := "e7b66c1de6bdc836ca2fd2ade9be6dc0acd5b5fc36a65848f8d947ab7231a1d9", checked := Tryz.checked }
namespace Rows
def none {H : Type} : Left H := { results := [], args := [] }

/-- 'laws.FnExactAskFor': WHATEVER THE INPUT: true; the input reads as it did. -/
def fnExactAskForSpec : ChangeSpec := { name := "fnExactAskFor", fn := fun _ => fun
  | [d1, d2, d3] => { results := [.lit (.bool true)], args := [d1, d2, d3] }
  | _ => none }
def fnExactAskForRow : OpenClaim := { program := "ytnlndmoecljicaagreat", sum := "e7b66c1de6bdc836ca2fd2ade9be6dc0acd5b5fc36a65848f8d947ab7231a1d9", func := "loop.example/g00233/laws.FnExactAskFor", spec := "fnExactAskFor", unfollowed := true, recurses := true, apart := false }
def FnExactAskForSaid : Prop := fnExactAskForRow.holds Tryz.pinned (OpenSpec.ofChange fnExactAskForSpec)

/-- ITS FALSE NEIGHBOUR: 'it returns false'. Refute it at one input. -/
def fnExactAskForWrong : ChangeSpec := { name := "fnExactAskFor", fn := fun _ => fun
  | [d1, d2, d3] => { results := [.lit (.bool false)], args := [d1, d2, d3] }
  | _ => none }
def FnExactAskForWrongFalsely : Prop := fnExactAskForRow.holds Tryz.pinned (OpenSpec.ofChange fnExactAskForWrong)

/-- 'laws.FnCrashed': WHATEVER THE INPUT: true; the input reads as it did. -/
def fnCrashedSpec : ChangeSpec := { name := "fnCrashed", fn := fun _ => fun
  | [d] => { results := [.lit (.bool true)], args := [d] }
  | _ => none }
def fnCrashedRow : OpenClaim := { program := "ytnlndmoecljicaagreat", sum := "e7b66c1de6bdc836ca2fd2ade9be6dc0acd5b5fc36a65848f8d947ab7231a1d9", func := "loop.example/g00233/laws.FnCrashed", spec := "fnCrashed", unfollowed := true, recurses := true, apart := false }
def FnCrashedSaid : Prop := fnCrashedRow.holds Tryz.pinned (OpenSpec.ofChange fnCrashedSpec)

/-- ITS FALSE NEIGHBOUR: 'it returns false'. Refute it at one input. -/
def fnCrashedWrong : ChangeSpec := { name := "fnCrashed", fn := fun _ => fun
  | [d] => { results := [.lit (.bool false)], args := [d] }
  | _ => none }
def FnCrashedWrongFalsely : Prop := fnCrashedRow.holds Tryz.pinned (OpenSpec.ofChange fnCrashedWrong)

/-- 'laws.FnExactCrashMirror': WHATEVER THE INPUT: true; the input reads as it did. -/
def fnExactCrashMirrorSpec : ChangeSpec := { name := "fnExactCrashMirror", fn := fun _ => fun
  | [d1, d2, d3] => { results := [.lit (.bool true)], args := [d1, d2, d3] }
  | _ => none }
def fnExactCrashMirrorRow : OpenClaim := { program := "ytnlndmoecljicaagreat", sum := "e7b66c1de6bdc836ca2fd2ade9be6dc0acd5b5fc36a65848f8d947ab7231a1d9", func := "loop.example/g00233/laws.FnExactCrashMirror", spec := "fnExactCrashMirror", unfollowed := true, recurses := true, apart := false }
def FnExactCrashMirrorSaid : Prop := fnExactCrashMirrorRow.holds Tryz.pinned (OpenSpec.ofChange fnExactCrashMirrorSpec)

/-- ITS FALSE NEIGHBOUR: 'it returns false'. Refute it at one input. -/
def fnExactCrashMirrorWrong : ChangeSpec := { name := "fnExactCrashMirror", fn := fun _ => fun
  | [d1, d2, d3] => { results := [.lit (.bool false)], args := [d1, d2, d3] }
  | _ => none }
def FnExactCrashMirrorWrongFalsely : Prop := fnExactCrashMirrorRow.holds Tryz.pinned (OpenSpec.ofChange fnExactCrashMirrorWrong)

/-- 'laws.FnGossiped': WHATEVER THE INPUT: true; the input reads as it did. -/
def fnGossipedSpec : ChangeSpec := { name := "fnGossiped", fn := fun _ => fun
  | [d] => { results := [.lit (.bool true)], args := [d] }
  | _ => none }
def fnGossipedRow : OpenClaim := { program := "ytnlndmoecljicaagreat", sum := "e7b66c1de6bdc836ca2fd2ade9be6dc0acd5b5fc36a65848f8d947ab7231a1d9", func := "loop.example/g00233/laws.FnGossiped", spec := "fnGossiped", unfollowed := true, recurses := true, apart := false }
def FnGossipedSaid : Prop := fnGossipedRow.holds Tryz.pinned (OpenSpec.ofChange fnGossipedSpec)

/-- ITS FALSE NEIGHBOUR: 'it returns false'. Refute it at one input. -/
def fnGossipedWrong : ChangeSpec := { name := "fnGossiped", fn := fun _ => fun
  | [d] => { results := [.lit (.bool false)], args := [d] }
  | _ => none }
def FnGossipedWrongFalsely : Prop := fnGossipedRow.holds Tryz.pinned (OpenSpec.ofChange fnGossipedWrong)

/-- 'laws.FnExactSyncMirror': WHATEVER THE INPUT: true; the input reads as it did. -/
def fnExactSyncMirrorSpec : ChangeSpec := { name := "fnExactSyncMirror", fn := fun _ => fun
  | [d1, d2] => { results := [.lit (.bool true)], args := [d1, d2] }
  | _ => none }
def fnExactSyncMirrorRow : OpenClaim := { program := "ytnlndmoecljicaagreat", sum := "e7b66c1de6bdc836ca2fd2ade9be6dc0acd5b5fc36a65848f8d947ab7231a1d9", func := "loop.example/g00233/laws.FnExactSyncMirror", spec := "fnExactSyncMirror", unfollowed := true, recurses := true, apart := false }
def FnExactSyncMirrorSaid : Prop := fnExactSyncMirrorRow.holds Tryz.pinned (OpenSpec.ofChange fnExactSyncMirrorSpec)

/-- ITS FALSE NEIGHBOUR: 'it returns false'. Refute it at one input. -/
def fnExactSyncMirrorWrong : ChangeSpec := { name := "fnExactSyncMirror", fn := fun _ => fun
  | [d1, d2] => { results := [.lit (.bool false)], args := [d1, d2] }
  | _ => none }
def FnExactSyncMirrorWrongFalsely : Prop := fnExactSyncMirrorRow.holds Tryz.pinned (OpenSpec.ofChange fnExactSyncMirrorWrong)

/-- 'laws.FnExactGossip': WHATEVER THE INPUT: true; the input reads as it did. -/
def fnExactGossipSpec : ChangeSpec := { name := "fnExactGossip", fn := fun _ => fun
  | [d1, d2, d3] => { results := [.lit (.bool true)], args := [d1, d2, d3] }
  | _ => none }
def fnExactGossipRow : OpenClaim := { program := "ytnlndmoecljicaagreat", sum := "e7b66c1de6bdc836ca2fd2ade9be6dc0acd5b5fc36a65848f8d947ab7231a1d9", func := "loop.example/g00233/laws.FnExactGossip", spec := "fnExactGossip", unfollowed := true, recurses := true, apart := false }
def FnExactGossipSaid : Prop := fnExactGossipRow.holds Tryz.pinned (OpenSpec.ofChange fnExactGossipSpec)

/-- ITS FALSE NEIGHBOUR: 'it returns false'. Refute it at one input. -/
def fnExactGossipWrong : ChangeSpec := { name := "fnExactGossip", fn := fun _ => fun
  | [d1, d2, d3] => { results := [.lit (.bool false)], args := [d1, d2, d3] }
  | _ => none }
def FnExactGossipWrongFalsely : Prop := fnExactGossipRow.holds Tryz.pinned (OpenSpec.ofChange fnExactGossipWrong)

/- THE SECOND FORM. 'bulk': how many values and letters a reading holds, each counted each time it is reached (what is shared counts as often as it is met; a slice's spare places count too). A statement '..UptoSaid' is the law's where the arguments, and the package variables that the reading takes, are together of bulk at most 1048576: NARROWER than '..Said'. Prove '..Said' where nothing that the law and all that it calls make is longer than what came in: it says more and counts as full. Else prove '..UptoSaid'. A law counts once. -/
mutual
def uptoBulk {H : Type} : DataW H → Nat
  | .lit (.string bytes) => bytes.length + 1
  | .lit _ => 1
  | .nil => 1
  | .ptr d => uptoBulk d + 1
  | .slice elems spare => uptoBulkAll elems + uptoBulkAll spare + 1
  | .agg parts => uptoBulkAll parts + 1
  | .iface _ d => uptoBulk d + 1
  | .map entries => uptoBulkEntries entries + 1
  | .held _ => 1
def uptoBulkAll {H : Type} : List (DataW H) → Nat
  | [] => 0
  | d :: r => uptoBulk d + uptoBulkAll r
def uptoBulkEntries {H : Type} : List (Lit × DataW H) → Nat
  | [] => 0
  | x :: r => uptoBulkEntry x + uptoBulkEntries r
def uptoBulkEntry {H : Type} : Lit × DataW H → Nat
  | (.string bytes, d) => bytes.length + uptoBulk d + 1
  | (_, d) => uptoBulk d + 1
 end
def uptoSmall : (H : Type) → List (DataW H) → Bool := fun _ ds => decide (uptoBulkAll ds ≤ 1048576)
def OpenSpec.upto (s : _root_.Go.ChangeSpec) : _root_.Go.OpenSpec := { _root_.Go.OpenSpec.ofChange s with cond := some uptoSmall }

/-- 'laws.FnExactAskFor', WHERE WHAT IT READS IS OF BULK AT MOST 1048576: true; the input reads as it did. -/
def fnExactAskForUptoRow : OpenClaim := { program := "ytnlndmoecljicaagreat", sum := "e7b66c1de6bdc836ca2fd2ade9be6dc0acd5b5fc36a65848f8d947ab7231a1d9", func := "loop.example/g00233/laws.FnExactAskFor", spec := "fnExactAskFor", unfollowed := true, recurses := true, apart := false, narrowed := true }
def FnExactAskForUptoSaid : Prop := fnExactAskForUptoRow.holds Tryz.pinned (OpenSpec.upto fnExactAskForSpec)

/-- 'laws.FnCrashed', WHERE WHAT IT READS IS OF BULK AT MOST 1048576: true; the input reads as it did. -/
def fnCrashedUptoRow : OpenClaim := { program := "ytnlndmoecljicaagreat", sum := "e7b66c1de6bdc836ca2fd2ade9be6dc0acd5b5fc36a65848f8d947ab7231a1d9", func := "loop.example/g00233/laws.FnCrashed", spec := "fnCrashed", unfollowed := true, recurses := true, apart := false, narrowed := true }
def FnCrashedUptoSaid : Prop := fnCrashedUptoRow.holds Tryz.pinned (OpenSpec.upto fnCrashedSpec)

/-- 'laws.FnExactCrashMirror', WHERE WHAT IT READS IS OF BULK AT MOST 1048576: true; the input reads as it did. -/
def fnExactCrashMirrorUptoRow : OpenClaim := { program := "ytnlndmoecljicaagreat", sum := "e7b66c1de6bdc836ca2fd2ade9be6dc0acd5b5fc36a65848f8d947ab7231a1d9", func := "loop.example/g00233/laws.FnExactCrashMirror", spec := "fnExactCrashMirror", unfollowed := true, recurses := true, apart := false, narrowed := true }
def FnExactCrashMirrorUptoSaid : Prop := fnExactCrashMirrorUptoRow.holds Tryz.pinned (OpenSpec.upto fnExactCrashMirrorSpec)

/-- 'laws.FnGossiped', WHERE WHAT IT READS IS OF BULK AT MOST 1048576: true; the input reads as it did. -/
def fnGossipedUptoRow : OpenClaim := { program := "ytnlndmoecljicaagreat", sum := "e7b66c1de6bdc836ca2fd2ade9be6dc0acd5b5fc36a65848f8d947ab7231a1d9", func := "loop.example/g00233/laws.FnGossiped", spec := "fnGossiped", unfollowed := true, recurses := true, apart := false, narrowed := true }
def FnGossipedUptoSaid : Prop := fnGossipedUptoRow.holds Tryz.pinned (OpenSpec.upto fnGossipedSpec)

/-- 'laws.FnExactSyncMirror', WHERE WHAT IT READS IS OF BULK AT MOST 1048576: true; the input reads as it did. -/
def fnExactSyncMirrorUptoRow : OpenClaim := { program := "ytnlndmoecljicaagreat", sum := "e7b66c1de6bdc836ca2fd2ade9be6dc0acd5b5fc36a65848f8d947ab7231a1d9", func := "loop.example/g00233/laws.FnExactSyncMirror", spec := "fnExactSyncMirror", unfollowed := true, recurses := true, apart := false, narrowed := true }
def FnExactSyncMirrorUptoSaid : Prop := fnExactSyncMirrorUptoRow.holds Tryz.pinned (OpenSpec.upto fnExactSyncMirrorSpec)

/-- 'laws.FnExactGossip', WHERE WHAT IT READS IS OF BULK AT MOST 1048576: true; the input reads as it did. -/
def fnExactGossipUptoRow : OpenClaim := { program := "ytnlndmoecljicaagreat", sum := "e7b66c1de6bdc836ca2fd2ade9be6dc0acd5b5fc36a65848f8d947ab7231a1d9", func := "loop.example/g00233/laws.FnExactGossip", spec := "fnExactGossip", unfollowed := true, recurses := true, apart := false, narrowed := true }
def FnExactGossipUptoSaid : Prop := fnExactGossipUptoRow.holds Tryz.pinned (OpenSpec.upto fnExactGossipSpec)

end Rows
end Go.Proofs.YtnlndmoecljicaaGreat

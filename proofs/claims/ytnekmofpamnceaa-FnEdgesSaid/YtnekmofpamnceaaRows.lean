/-
  No cell of these rows narrows 'for every input' (looked for: loops, veiled, ifaces, maps, wideKeys, modest, calm, conditions, laid).
  DERIVED. THE GIVEN ROWS OF THIS SEAT. 12 by the template 'for every input the law returns true; each argument reads behind the call as it read before'; 0 by the template 'total and deterministic' (their statements: YtnekmofpamnceaaTotals.lean).
  GIVEN WITH THE SEED: the statements are not yours to turn. If you find one false, say at which input.
  Laid BY PROGRAM, IN A SANDBOX (cutbox-rows.mjs): the forced cells as the released guide's own fill.sh prints them over the translation e0fd3773f5dbcce2… (all of the seat's roots in one cut). By AI agents, Wed Nov 11 2026. No macro, syntax, notation, axiom, sorry.
-/
import Derived.Test.YtnekmofpamnceaaChecked
import GoSem.Claim
import GoSem.ClaimJoined
import GoSem.ClaimMapViews
import Derived.JoinedTies
import Derived.KernelRfl
namespace Go.Proofs.Ytnekmofpamnceaa
/- THE CELL 'sum', in the pinned program and in every row, IS THE sha256 OF THE DUMP (.gsa) THAT YtnekmofpamnceaaProg.lean LOADS. Nothing in Lean hashes anything: it is a label: what it is worth is what the hold of that sum in a sandbox is worth. -/
noncomputable def Try.pinned : Pinned := { name := "ytnekmofpamnceaa", sum := "e0fd3773f5dbcce2b4e21415172cb5068a4ef998e1043ad52f1453aa45823ba1", checked := Try.checked }
namespace Rows
def none {H : Type} : Left H := { results := [], args := [] }

/-- 'laws.FnExactHeadOf': WHATEVER THE INPUT: true; the input reads as it did. -/
def fnExactHeadOfSpec : ChangeSpec := { name := "fnExactHeadOf", fn := fun _ => fun
  | [d] => { results := [.lit (.bool true)], args := [d] }
  | _ => none }
def fnExactHeadOfRow : OpenClaim := { program := "ytnekmofpamnceaa", sum := "e0fd3773f5dbcce2b4e21415172cb5068a4ef998e1043ad52f1453aa45823ba1", func := "loop.example/g00233/laws.FnExactHeadOf", spec := "fnExactHeadOf", unfollowed := true, recurses := true, apart := false }
def FnExactHeadOfSaid : Prop := fnExactHeadOfRow.holds Try.pinned (OpenSpec.ofChange fnExactHeadOfSpec)

/-- ITS FALSE NEIGHBOUR: 'it returns false'. Refute it at one input. -/
def fnExactHeadOfWrong : ChangeSpec := { name := "fnExactHeadOf", fn := fun _ => fun
  | [d] => { results := [.lit (.bool false)], args := [d] }
  | _ => none }
def FnExactHeadOfWrongFalsely : Prop := fnExactHeadOfRow.holds Try.pinned (OpenSpec.ofChange fnExactHeadOfWrong)

/-- 'laws.FnExactEdgeOf': WHATEVER THE INPUT: true; the input reads as it did. -/
def fnExactEdgeOfSpec : ChangeSpec := { name := "fnExactEdgeOf", fn := fun _ => fun
  | [d] => { results := [.lit (.bool true)], args := [d] }
  | _ => none }
def fnExactEdgeOfRow : OpenClaim := { program := "ytnekmofpamnceaa", sum := "e0fd3773f5dbcce2b4e21415172cb5068a4ef998e1043ad52f1453aa45823ba1", func := "loop.example/g00233/laws.FnExactEdgeOf", spec := "fnExactEdgeOf", unfollowed := true, recurses := true, apart := false }
def FnExactEdgeOfSaid : Prop := fnExactEdgeOfRow.holds Try.pinned (OpenSpec.ofChange fnExactEdgeOfSpec)

/-- ITS FALSE NEIGHBOUR: 'it returns false'. Refute it at one input. -/
def fnExactEdgeOfWrong : ChangeSpec := { name := "fnExactEdgeOf", fn := fun _ => fun
  | [d] => { results := [.lit (.bool false)], args := [d] }
  | _ => none }
def FnExactEdgeOfWrongFalsely : Prop := fnExactEdgeOfRow.holds Try.pinned (OpenSpec.ofChange fnExactEdgeOfWrong)

/-- 'laws.FnEdges': WHATEVER THE INPUT: true; the input reads as it did. -/
def fnEdgesSpec : ChangeSpec := { name := "fnEdges", fn := fun _ => fun
  | [d] => { results := [.lit (.bool true)], args := [d] }
  | _ => none }
def fnEdgesRow : OpenClaim := { program := "ytnekmofpamnceaa", sum := "e0fd3773f5dbcce2b4e21415172cb5068a4ef998e1043ad52f1453aa45823ba1", func := "loop.example/g00233/laws.FnEdges", spec := "fnEdges", unfollowed := true, recurses := true, apart := false }
def FnEdgesSaid : Prop := fnEdgesRow.holds Try.pinned (OpenSpec.ofChange fnEdgesSpec)

/-- ITS FALSE NEIGHBOUR: 'it returns false'. Refute it at one input. -/
def fnEdgesWrong : ChangeSpec := { name := "fnEdges", fn := fun _ => fun
  | [d] => { results := [.lit (.bool false)], args := [d] }
  | _ => none }
def FnEdgesWrongFalsely : Prop := fnEdgesRow.holds Try.pinned (OpenSpec.ofChange fnEdgesWrong)

/-- 'laws.FnExactLogNew': WHATEVER THE INPUT: true; the input reads as it did. -/
def fnExactLogNewSpec : ChangeSpec := { name := "fnExactLogNew", fn := fun _ => fun
  | [] => { results := [.lit (.bool true)], args := [] }
  | _ => none }
def fnExactLogNewRow : OpenClaim := { program := "ytnekmofpamnceaa", sum := "e0fd3773f5dbcce2b4e21415172cb5068a4ef998e1043ad52f1453aa45823ba1", func := "loop.example/g00233/laws.FnExactLogNew", spec := "fnExactLogNew", unfollowed := true, recurses := true, apart := false }
def FnExactLogNewSaid : Prop := fnExactLogNewRow.holds Try.pinned (OpenSpec.ofChange fnExactLogNewSpec)

/-- ITS FALSE NEIGHBOUR: 'it returns false'. Refute it at one input. -/
def fnExactLogNewWrong : ChangeSpec := { name := "fnExactLogNew", fn := fun _ => fun
  | [] => { results := [.lit (.bool false)], args := [] }
  | _ => none }
def FnExactLogNewWrongFalsely : Prop := fnExactLogNewRow.holds Try.pinned (OpenSpec.ofChange fnExactLogNewWrong)

/-- 'laws.FnExactLogOk': WHATEVER THE INPUT: true; the input reads as it did. -/
def fnExactLogOkSpec : ChangeSpec := { name := "fnExactLogOk", fn := fun _ => fun
  | [d] => { results := [.lit (.bool true)], args := [d] }
  | _ => none }
def fnExactLogOkRow : OpenClaim := { program := "ytnekmofpamnceaa", sum := "e0fd3773f5dbcce2b4e21415172cb5068a4ef998e1043ad52f1453aa45823ba1", func := "loop.example/g00233/laws.FnExactLogOk", spec := "fnExactLogOk", unfollowed := true, recurses := true, apart := false }
def FnExactLogOkSaid : Prop := fnExactLogOkRow.holds Try.pinned (OpenSpec.ofChange fnExactLogOkSpec)

/-- ITS FALSE NEIGHBOUR: 'it returns false'. Refute it at one input. -/
def fnExactLogOkWrong : ChangeSpec := { name := "fnExactLogOk", fn := fun _ => fun
  | [d] => { results := [.lit (.bool false)], args := [d] }
  | _ => none }
def FnExactLogOkWrongFalsely : Prop := fnExactLogOkRow.holds Try.pinned (OpenSpec.ofChange fnExactLogOkWrong)

/-- 'laws.FnExactClash': WHATEVER THE INPUT: true; the input reads as it did. -/
def fnExactClashSpec : ChangeSpec := { name := "fnExactClash", fn := fun _ => fun
  | [d1, d2] => { results := [.lit (.bool true)], args := [d1, d2] }
  | _ => none }
def fnExactClashRow : OpenClaim := { program := "ytnekmofpamnceaa", sum := "e0fd3773f5dbcce2b4e21415172cb5068a4ef998e1043ad52f1453aa45823ba1", func := "loop.example/g00233/laws.FnExactClash", spec := "fnExactClash", unfollowed := true, recurses := true, apart := false }
def FnExactClashSaid : Prop := fnExactClashRow.holds Try.pinned (OpenSpec.ofChange fnExactClashSpec)

/-- ITS FALSE NEIGHBOUR: 'it returns false'. Refute it at one input. -/
def fnExactClashWrong : ChangeSpec := { name := "fnExactClash", fn := fun _ => fun
  | [d1, d2] => { results := [.lit (.bool false)], args := [d1, d2] }
  | _ => none }
def FnExactClashWrongFalsely : Prop := fnExactClashRow.holds Try.pinned (OpenSpec.ofChange fnExactClashWrong)

/-- 'laws.FnExactTileOf': WHATEVER THE INPUT: true; the input reads as it did. -/
def fnExactTileOfSpec : ChangeSpec := { name := "fnExactTileOf", fn := fun _ => fun
  | [d1, d2, d3] => { results := [.lit (.bool true)], args := [d1, d2, d3] }
  | _ => none }
def fnExactTileOfRow : OpenClaim := { program := "ytnekmofpamnceaa", sum := "e0fd3773f5dbcce2b4e21415172cb5068a4ef998e1043ad52f1453aa45823ba1", func := "loop.example/g00233/laws.FnExactTileOf", spec := "fnExactTileOf", unfollowed := true, recurses := true, apart := false }
def FnExactTileOfSaid : Prop := fnExactTileOfRow.holds Try.pinned (OpenSpec.ofChange fnExactTileOfSpec)

/-- ITS FALSE NEIGHBOUR: 'it returns false'. Refute it at one input. -/
def fnExactTileOfWrong : ChangeSpec := { name := "fnExactTileOf", fn := fun _ => fun
  | [d1, d2, d3] => { results := [.lit (.bool false)], args := [d1, d2, d3] }
  | _ => none }
def FnExactTileOfWrongFalsely : Prop := fnExactTileOfRow.holds Try.pinned (OpenSpec.ofChange fnExactTileOfWrong)

/-- 'laws.FnExactEdgeRoot': WHATEVER THE INPUT: true; the input reads as it did. -/
def fnExactEdgeRootSpec : ChangeSpec := { name := "fnExactEdgeRoot", fn := fun _ => fun
  | [d] => { results := [.lit (.bool true)], args := [d] }
  | _ => none }
def fnExactEdgeRootRow : OpenClaim := { program := "ytnekmofpamnceaa", sum := "e0fd3773f5dbcce2b4e21415172cb5068a4ef998e1043ad52f1453aa45823ba1", func := "loop.example/g00233/laws.FnExactEdgeRoot", spec := "fnExactEdgeRoot", unfollowed := true, recurses := true, apart := false }
def FnExactEdgeRootSaid : Prop := fnExactEdgeRootRow.holds Try.pinned (OpenSpec.ofChange fnExactEdgeRootSpec)

/-- ITS FALSE NEIGHBOUR: 'it returns false'. Refute it at one input. -/
def fnExactEdgeRootWrong : ChangeSpec := { name := "fnExactEdgeRoot", fn := fun _ => fun
  | [d] => { results := [.lit (.bool false)], args := [d] }
  | _ => none }
def FnExactEdgeRootWrongFalsely : Prop := fnExactEdgeRootRow.holds Try.pinned (OpenSpec.ofChange fnExactEdgeRootWrong)

/-- 'laws.FnExactStoreNew': WHATEVER THE INPUT: true; the input reads as it did. -/
def fnExactStoreNewSpec : ChangeSpec := { name := "fnExactStoreNew", fn := fun _ => fun
  | [] => { results := [.lit (.bool true)], args := [] }
  | _ => none }
def fnExactStoreNewRow : OpenClaim := { program := "ytnekmofpamnceaa", sum := "e0fd3773f5dbcce2b4e21415172cb5068a4ef998e1043ad52f1453aa45823ba1", func := "loop.example/g00233/laws.FnExactStoreNew", spec := "fnExactStoreNew", unfollowed := true, recurses := true, apart := false }
def FnExactStoreNewSaid : Prop := fnExactStoreNewRow.holds Try.pinned (OpenSpec.ofChange fnExactStoreNewSpec)

/-- ITS FALSE NEIGHBOUR: 'it returns false'. Refute it at one input. -/
def fnExactStoreNewWrong : ChangeSpec := { name := "fnExactStoreNew", fn := fun _ => fun
  | [] => { results := [.lit (.bool false)], args := [] }
  | _ => none }
def FnExactStoreNewWrongFalsely : Prop := fnExactStoreNewRow.holds Try.pinned (OpenSpec.ofChange fnExactStoreNewWrong)

/-- 'laws.FnExactProveIn': WHATEVER THE INPUT: true; the input reads as it did. -/
def fnExactProveInSpec : ChangeSpec := { name := "fnExactProveIn", fn := fun _ => fun
  | [d1, d2] => { results := [.lit (.bool true)], args := [d1, d2] }
  | _ => none }
def fnExactProveInRow : OpenClaim := { program := "ytnekmofpamnceaa", sum := "e0fd3773f5dbcce2b4e21415172cb5068a4ef998e1043ad52f1453aa45823ba1", func := "loop.example/g00233/laws.FnExactProveIn", spec := "fnExactProveIn", unfollowed := true, recurses := true, apart := false }
def FnExactProveInSaid : Prop := fnExactProveInRow.holds Try.pinned (OpenSpec.ofChange fnExactProveInSpec)

/-- ITS FALSE NEIGHBOUR: 'it returns false'. Refute it at one input. -/
def fnExactProveInWrong : ChangeSpec := { name := "fnExactProveIn", fn := fun _ => fun
  | [d1, d2] => { results := [.lit (.bool false)], args := [d1, d2] }
  | _ => none }
def FnExactProveInWrongFalsely : Prop := fnExactProveInRow.holds Try.pinned (OpenSpec.ofChange fnExactProveInWrong)

/-- 'laws.FnExactProveGrown': WHATEVER THE INPUT: true; the input reads as it did. -/
def fnExactProveGrownSpec : ChangeSpec := { name := "fnExactProveGrown", fn := fun _ => fun
  | [d1, d2] => { results := [.lit (.bool true)], args := [d1, d2] }
  | _ => none }
def fnExactProveGrownRow : OpenClaim := { program := "ytnekmofpamnceaa", sum := "e0fd3773f5dbcce2b4e21415172cb5068a4ef998e1043ad52f1453aa45823ba1", func := "loop.example/g00233/laws.FnExactProveGrown", spec := "fnExactProveGrown", unfollowed := true, recurses := true, apart := false }
def FnExactProveGrownSaid : Prop := fnExactProveGrownRow.holds Try.pinned (OpenSpec.ofChange fnExactProveGrownSpec)

/-- ITS FALSE NEIGHBOUR: 'it returns false'. Refute it at one input. -/
def fnExactProveGrownWrong : ChangeSpec := { name := "fnExactProveGrown", fn := fun _ => fun
  | [d1, d2] => { results := [.lit (.bool false)], args := [d1, d2] }
  | _ => none }
def FnExactProveGrownWrongFalsely : Prop := fnExactProveGrownRow.holds Try.pinned (OpenSpec.ofChange fnExactProveGrownWrong)

/-- 'laws.FnExactMirrorNew': WHATEVER THE INPUT: true; the input reads as it did. -/
def fnExactMirrorNewSpec : ChangeSpec := { name := "fnExactMirrorNew", fn := fun _ => fun
  | [d] => { results := [.lit (.bool true)], args := [d] }
  | _ => none }
def fnExactMirrorNewRow : OpenClaim := { program := "ytnekmofpamnceaa", sum := "e0fd3773f5dbcce2b4e21415172cb5068a4ef998e1043ad52f1453aa45823ba1", func := "loop.example/g00233/laws.FnExactMirrorNew", spec := "fnExactMirrorNew", unfollowed := true, recurses := true, apart := false }
def FnExactMirrorNewSaid : Prop := fnExactMirrorNewRow.holds Try.pinned (OpenSpec.ofChange fnExactMirrorNewSpec)

/-- ITS FALSE NEIGHBOUR: 'it returns false'. Refute it at one input. -/
def fnExactMirrorNewWrong : ChangeSpec := { name := "fnExactMirrorNew", fn := fun _ => fun
  | [d] => { results := [.lit (.bool false)], args := [d] }
  | _ => none }
def FnExactMirrorNewWrongFalsely : Prop := fnExactMirrorNewRow.holds Try.pinned (OpenSpec.ofChange fnExactMirrorNewWrong)

/- THE SECOND FORM. 'bulk': how many values and letters a reading holds, each counted each time it is reached (what is shared counts as often as it is met; a slice's spare places count too). A statement '..UptoSaid' is the law's where the arguments, and the package variables that the reading takes, are together of bulk at most 1048576: NARROWER than '..Said'. Prove '..Said' where nothing that the law and all that it calls make is longer than what came in: it says more and counts as full. Else prove '..UptoSaid'. A law counts once. -/
mutual
def uptoBulk {H : Type} : DataW H → Nat
  | .lit (.string bytes) => bytes.length + 1
  | .lit _ => 1
  | .nil => 1
  | .ptr d => uptoBulk d + 1
  | .slice elems spare => uptoBulkAll elems + uptoBulkAll spare + 1
  | .agg parts => uptoBulkAll parts + 1
  | .iface _ d => uptoBulk d + 1
  | .map entries => uptoBulkEntries entries + 1
  | .held _ => 1
def uptoBulkAll {H : Type} : List (DataW H) → Nat
  | [] => 0
  | d :: r => uptoBulk d + uptoBulkAll r
def uptoBulkEntries {H : Type} : List (Lit × DataW H) → Nat
  | [] => 0
  | x :: r => uptoBulkEntry x + uptoBulkEntries r
def uptoBulkEntry {H : Type} : Lit × DataW H → Nat
  | (.string bytes, d) => bytes.length + uptoBulk d + 1
  | (_, d) => uptoBulk d + 1
 end
def uptoSmall : (H : Type) → List (DataW H) → Bool := fun _ ds => decide (uptoBulkAll ds ≤ 1048576)
def OpenSpec.upto (s : _root_.Go.ChangeSpec) : _root_.Go.OpenSpec := { _root_.Go.OpenSpec.ofChange s with cond := some uptoSmall }

/-- 'laws.FnExactHeadOf', WHERE WHAT IT READS IS OF BULK AT MOST 1048576: true; the input reads as it did. -/
def fnExactHeadOfUptoRow : OpenClaim := { program := "ytnekmofpamnceaa", sum := "e0fd3773f5dbcce2b4e21415172cb5068a4ef998e1043ad52f1453aa45823ba1", func := "loop.example/g00233/laws.FnExactHeadOf", spec := "fnExactHeadOf", unfollowed := true, recurses := true, apart := false, narrowed := true }
def FnExactHeadOfUptoSaid : Prop := fnExactHeadOfUptoRow.holds Try.pinned (OpenSpec.upto fnExactHeadOfSpec)

/-- 'laws.FnExactEdgeOf', WHERE WHAT IT READS IS OF BULK AT MOST 1048576: true; the input reads as it did. -/
def fnExactEdgeOfUptoRow : OpenClaim := { program := "ytnekmofpamnceaa", sum := "e0fd3773f5dbcce2b4e21415172cb5068a4ef998e1043ad52f1453aa45823ba1", func := "loop.example/g00233/laws.FnExactEdgeOf", spec := "fnExactEdgeOf", unfollowed := true, recurses := true, apart := false, narrowed := true }
def FnExactEdgeOfUptoSaid : Prop := fnExactEdgeOfUptoRow.holds Try.pinned (OpenSpec.upto fnExactEdgeOfSpec)

/-- 'laws.FnEdges', WHERE WHAT IT READS IS OF BULK AT MOST 1048576: true; the input reads as it did. -/
def fnEdgesUptoRow : OpenClaim := { program := "ytnekmofpamnceaa", sum := "e0fd3773f5dbcce2b4e21415172cb5068a4ef998e1043ad52f1453aa45823ba1", func := "loop.example/g00233/laws.FnEdges", spec := "fnEdges", unfollowed := true, recurses := true, apart := false, narrowed := true }
def FnEdgesUptoSaid : Prop := fnEdgesUptoRow.holds Try.pinned (OpenSpec.upto fnEdgesSpec)

/-- 'laws.FnExactLogNew', WHERE WHAT IT READS IS OF BULK AT MOST 1048576: true; the input reads as it did. -/
def fnExactLogNewUptoRow : OpenClaim := { program := "ytnekmofpamnceaa", sum := "e0fd3773f5dbcce2b4e21415172cb5068a4ef998e1043ad52f1453aa45823ba1", func := "loop.example/g00233/laws.FnExactLogNew", spec := "fnExactLogNew", unfollowed := true, recurses := true, apart := false, narrowed := true }
def FnExactLogNewUptoSaid : Prop := fnExactLogNewUptoRow.holds Try.pinned (OpenSpec.upto fnExactLogNewSpec)

/-- 'laws.FnExactLogOk', WHERE WHAT IT READS IS OF BULK AT MOST 1048576: true; the input reads as it did. -/
def fnExactLogOkUptoRow : OpenClaim := { program := "ytnekmofpamnceaa", sum := "e0fd3773f5dbcce2b4e21415172cb5068a4ef998e1043ad52f1453aa45823ba1", func := "loop.example/g00233/laws.FnExactLogOk", spec := "fnExactLogOk", unfollowed := true, recurses := true, apart := false, narrowed := true }
def FnExactLogOkUptoSaid : Prop := fnExactLogOkUptoRow.holds Try.pinned (OpenSpec.upto fnExactLogOkSpec)

/-- 'laws.FnExactClash', WHERE WHAT IT READS IS OF BULK AT MOST 1048576: true; the input reads as it did. -/
def fnExactClashUptoRow : OpenClaim := { program := "ytnekmofpamnceaa", sum := "e0fd3773f5dbcce2b4e21415172cb5068a4ef998e1043ad52f1453aa45823ba1", func := "loop.example/g00233/laws.FnExactClash", spec := "fnExactClash", unfollowed := true, recurses := true, apart := false, narrowed := true }
def FnExactClashUptoSaid : Prop := fnExactClashUptoRow.holds Try.pinned (OpenSpec.upto fnExactClashSpec)

/-- 'laws.FnExactTileOf', WHERE WHAT IT READS IS OF BULK AT MOST 1048576: true; the input reads as it did. -/
def fnExactTileOfUptoRow : OpenClaim := { program := "ytnekmofpamnceaa", sum := "e0fd3773f5dbcce2b4e21415172cb5068a4ef998e1043ad52f1453aa45823ba1", func := "loop.example/g00233/laws.FnExactTileOf", spec := "fnExactTileOf", unfollowed := true, recurses := true, apart := false, narrowed := true }
def FnExactTileOfUptoSaid : Prop := fnExactTileOfUptoRow.holds Try.pinned (OpenSpec.upto fnExactTileOfSpec)

/-- 'laws.FnExactEdgeRoot', WHERE WHAT IT READS IS OF BULK AT MOST 1048576: true; the input reads as it did. -/
def fnExactEdgeRootUptoRow : OpenClaim := { program := "ytnekmofpamnceaa", sum := "e0fd3773f5dbcce2b4e21415172cb5068a4ef998e1043ad52f1453aa45823ba1", func := "loop.example/g00233/laws.FnExactEdgeRoot", spec := "fnExactEdgeRoot", unfollowed := true, recurses := true, apart := false, narrowed := true }
def FnExactEdgeRootUptoSaid : Prop := fnExactEdgeRootUptoRow.holds Try.pinned (OpenSpec.upto fnExactEdgeRootSpec)

/-- 'laws.FnExactStoreNew', WHERE WHAT IT READS IS OF BULK AT MOST 1048576: true; the input reads as it did. -/
def fnExactStoreNewUptoRow : OpenClaim := { program := "ytnekmofpamnceaa", sum := "e0fd3773f5dbcce2b4e21415172cb5068a4ef998e1043ad52f1453aa45823ba1", func := "loop.example/g00233/laws.FnExactStoreNew", spec := "fnExactStoreNew", unfollowed := true, recurses := true, apart := false, narrowed := true }
def FnExactStoreNewUptoSaid : Prop := fnExactStoreNewUptoRow.holds Try.pinned (OpenSpec.upto fnExactStoreNewSpec)

/-- 'laws.FnExactProveIn', WHERE WHAT IT READS IS OF BULK AT MOST 1048576: true; the input reads as it did. -/
def fnExactProveInUptoRow : OpenClaim := { program := "ytnekmofpamnceaa", sum := "e0fd3773f5dbcce2b4e21415172cb5068a4ef998e1043ad52f1453aa45823ba1", func := "loop.example/g00233/laws.FnExactProveIn", spec := "fnExactProveIn", unfollowed := true, recurses := true, apart := false, narrowed := true }
def FnExactProveInUptoSaid : Prop := fnExactProveInUptoRow.holds Try.pinned (OpenSpec.upto fnExactProveInSpec)

/-- 'laws.FnExactProveGrown', WHERE WHAT IT READS IS OF BULK AT MOST 1048576: true; the input reads as it did. -/
def fnExactProveGrownUptoRow : OpenClaim := { program := "ytnekmofpamnceaa", sum := "e0fd3773f5dbcce2b4e21415172cb5068a4ef998e1043ad52f1453aa45823ba1", func := "loop.example/g00233/laws.FnExactProveGrown", spec := "fnExactProveGrown", unfollowed := true, recurses := true, apart := false, narrowed := true }
def FnExactProveGrownUptoSaid : Prop := fnExactProveGrownUptoRow.holds Try.pinned (OpenSpec.upto fnExactProveGrownSpec)

/-- 'laws.FnExactMirrorNew', WHERE WHAT IT READS IS OF BULK AT MOST 1048576: true; the input reads as it did. -/
def fnExactMirrorNewUptoRow : OpenClaim := { program := "ytnekmofpamnceaa", sum := "e0fd3773f5dbcce2b4e21415172cb5068a4ef998e1043ad52f1453aa45823ba1", func := "loop.example/g00233/laws.FnExactMirrorNew", spec := "fnExactMirrorNew", unfollowed := true, recurses := true, apart := false, narrowed := true }
def FnExactMirrorNewUptoSaid : Prop := fnExactMirrorNewUptoRow.holds Try.pinned (OpenSpec.upto fnExactMirrorNewSpec)

end Rows
end Go.Proofs.Ytnekmofpamnceaa

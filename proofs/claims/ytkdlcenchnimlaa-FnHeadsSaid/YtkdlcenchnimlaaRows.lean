/-
  No cell of these rows narrows 'for every input' (looked for: loops, veiled, ifaces, maps, wideKeys, modest, calm, conditions, laid).
  DERIVED. THE GIVEN ROWS OF THIS SEAT. 11 by the template 'for every input the law returns true; each argument reads behind the call as it read before'; 0 by the template 'total and deterministic' (their statements: YtkdlcenchnimlaaTotals.lean).
  GIVEN WITH THE SEED: the statements are not yours to turn. If you find one false, say at which input.
  Laid BY PROGRAM, IN A SANDBOX (cutbox-rows.mjs): the forced cells as the released guide's own fill.sh prints them over the translation 6603c8b077449f63… (all of the seat's roots in one cut). By AI agents, Wed Nov 11 2026. No macro, syntax, notation, axiom, sorry.
-/
import Derived.Test.YtkdlcenchnimlaaChecked
import GoSem.Claim
import GoSem.ClaimJoined
import GoSem.ClaimMapViews
import Derived.JoinedTies
import Derived.KernelRfl
namespace Go.Proofs.Ytkdlcenchnimlaa
/- THE CELL 'sum', in the pinned program and in every row, IS THE sha256 OF THE DUMP (.gsa) THAT YtkdlcenchnimlaaProg.lean LOADS. Nothing in Lean hashes anything: it is a label: what it is worth is what the hold of that sum in a sandbox is worth. -/
noncomputable def Try.pinned : Pinned := { name := "ytkdlcenchnimlaa", sum := "6603c8b077449f6330fc9c19c7b325d0790870fe7f64ead60f0d203cb4b1b2a2", checked := Try.checked }
namespace Rows
def none {H : Type} : Left H := { results := [], args := [] }

/-- 'laws.FnExactHeadOk': WHATEVER THE INPUT: true; the input reads as it did. -/
def fnExactHeadOkSpec : ChangeSpec := { name := "fnExactHeadOk", fn := fun _ => fun
  | [d] => { results := [.lit (.bool true)], args := [d] }
  | _ => none }
def fnExactHeadOkRow : OpenClaim := { program := "ytkdlcenchnimlaa", sum := "6603c8b077449f6330fc9c19c7b325d0790870fe7f64ead60f0d203cb4b1b2a2", func := "loop.example/g00233/laws.FnExactHeadOk", spec := "fnExactHeadOk", apart := false }
def FnExactHeadOkSaid : Prop := fnExactHeadOkRow.holds Try.pinned (OpenSpec.ofChange fnExactHeadOkSpec)

/-- ITS FALSE NEIGHBOUR: 'it returns false'. Refute it at one input. -/
def fnExactHeadOkWrong : ChangeSpec := { name := "fnExactHeadOk", fn := fun _ => fun
  | [d] => { results := [.lit (.bool false)], args := [d] }
  | _ => none }
def FnExactHeadOkWrongFalsely : Prop := fnExactHeadOkRow.holds Try.pinned (OpenSpec.ofChange fnExactHeadOkWrong)

/-- 'laws.FnExactTileCount': WHATEVER THE INPUT: true; the input reads as it did. -/
def fnExactTileCountSpec : ChangeSpec := { name := "fnExactTileCount", fn := fun _ => fun
  | [d1, d2] => { results := [.lit (.bool true)], args := [d1, d2] }
  | _ => none }
def fnExactTileCountRow : OpenClaim := { program := "ytkdlcenchnimlaa", sum := "6603c8b077449f6330fc9c19c7b325d0790870fe7f64ead60f0d203cb4b1b2a2", func := "loop.example/g00233/laws.FnExactTileCount", spec := "fnExactTileCount", apart := false }
def FnExactTileCountSaid : Prop := fnExactTileCountRow.holds Try.pinned (OpenSpec.ofChange fnExactTileCountSpec)

/-- ITS FALSE NEIGHBOUR: 'it returns false'. Refute it at one input. -/
def fnExactTileCountWrong : ChangeSpec := { name := "fnExactTileCount", fn := fun _ => fun
  | [d1, d2] => { results := [.lit (.bool false)], args := [d1, d2] }
  | _ => none }
def FnExactTileCountWrongFalsely : Prop := fnExactTileCountRow.holds Try.pinned (OpenSpec.ofChange fnExactTileCountWrong)

/-- 'laws.FnExactFork': WHATEVER THE INPUT: true; the input reads as it did. -/
def fnExactForkSpec : ChangeSpec := { name := "fnExactFork", fn := fun _ => fun
  | [d] => { results := [.lit (.bool true)], args := [d] }
  | _ => none }
def fnExactForkRow : OpenClaim := { program := "ytkdlcenchnimlaa", sum := "6603c8b077449f6330fc9c19c7b325d0790870fe7f64ead60f0d203cb4b1b2a2", func := "loop.example/g00233/laws.FnExactFork", spec := "fnExactFork", apart := false }
def FnExactForkSaid : Prop := fnExactForkRow.holds Try.pinned (OpenSpec.ofChange fnExactForkSpec)

/-- ITS FALSE NEIGHBOUR: 'it returns false'. Refute it at one input. -/
def fnExactForkWrong : ChangeSpec := { name := "fnExactFork", fn := fun _ => fun
  | [d] => { results := [.lit (.bool false)], args := [d] }
  | _ => none }
def FnExactForkWrongFalsely : Prop := fnExactForkRow.holds Try.pinned (OpenSpec.ofChange fnExactForkWrong)

/-- 'laws.FnExactBestHead': WHATEVER THE INPUT: true; the input reads as it did. -/
def fnExactBestHeadSpec : ChangeSpec := { name := "fnExactBestHead", fn := fun _ => fun
  | [d] => { results := [.lit (.bool true)], args := [d] }
  | _ => none }
def fnExactBestHeadRow : OpenClaim := { program := "ytkdlcenchnimlaa", sum := "6603c8b077449f6330fc9c19c7b325d0790870fe7f64ead60f0d203cb4b1b2a2", func := "loop.example/g00233/laws.FnExactBestHead", spec := "fnExactBestHead", apart := false }
def FnExactBestHeadSaid : Prop := fnExactBestHeadRow.holds Try.pinned (OpenSpec.ofChange fnExactBestHeadSpec)

/-- ITS FALSE NEIGHBOUR: 'it returns false'. Refute it at one input. -/
def fnExactBestHeadWrong : ChangeSpec := { name := "fnExactBestHead", fn := fun _ => fun
  | [d] => { results := [.lit (.bool false)], args := [d] }
  | _ => none }
def FnExactBestHeadWrongFalsely : Prop := fnExactBestHeadRow.holds Try.pinned (OpenSpec.ofChange fnExactBestHeadWrong)

/-- 'laws.FnExactIsSigned': WHATEVER THE INPUT: true; the input reads as it did. -/
def fnExactIsSignedSpec : ChangeSpec := { name := "fnExactIsSigned", fn := fun _ => fun
  | [d1, d2] => { results := [.lit (.bool true)], args := [d1, d2] }
  | _ => none }
def fnExactIsSignedRow : OpenClaim := { program := "ytkdlcenchnimlaa", sum := "6603c8b077449f6330fc9c19c7b325d0790870fe7f64ead60f0d203cb4b1b2a2", func := "loop.example/g00233/laws.FnExactIsSigned", spec := "fnExactIsSigned", apart := false }
def FnExactIsSignedSaid : Prop := fnExactIsSignedRow.holds Try.pinned (OpenSpec.ofChange fnExactIsSignedSpec)

/-- ITS FALSE NEIGHBOUR: 'it returns false'. Refute it at one input. -/
def fnExactIsSignedWrong : ChangeSpec := { name := "fnExactIsSigned", fn := fun _ => fun
  | [d1, d2] => { results := [.lit (.bool false)], args := [d1, d2] }
  | _ => none }
def FnExactIsSignedWrongFalsely : Prop := fnExactIsSignedRow.holds Try.pinned (OpenSpec.ofChange fnExactIsSignedWrong)

/-- 'laws.FnExactMsgOk': WHATEVER THE INPUT: true; the input reads as it did. -/
def fnExactMsgOkSpec : ChangeSpec := { name := "fnExactMsgOk", fn := fun _ => fun
  | [d] => { results := [.lit (.bool true)], args := [d] }
  | _ => none }
def fnExactMsgOkRow : OpenClaim := { program := "ytkdlcenchnimlaa", sum := "6603c8b077449f6330fc9c19c7b325d0790870fe7f64ead60f0d203cb4b1b2a2", func := "loop.example/g00233/laws.FnExactMsgOk", spec := "fnExactMsgOk", apart := false }
def FnExactMsgOkSaid : Prop := fnExactMsgOkRow.holds Try.pinned (OpenSpec.ofChange fnExactMsgOkSpec)

/-- ITS FALSE NEIGHBOUR: 'it returns false'. Refute it at one input. -/
def fnExactMsgOkWrong : ChangeSpec := { name := "fnExactMsgOk", fn := fun _ => fun
  | [d] => { results := [.lit (.bool false)], args := [d] }
  | _ => none }
def FnExactMsgOkWrongFalsely : Prop := fnExactMsgOkRow.holds Try.pinned (OpenSpec.ofChange fnExactMsgOkWrong)

/-- 'laws.FnExactIsClash': WHATEVER THE INPUT: true; the input reads as it did. -/
def fnExactIsClashSpec : ChangeSpec := { name := "fnExactIsClash", fn := fun _ => fun
  | [d1, d2, d3] => { results := [.lit (.bool true)], args := [d1, d2, d3] }
  | _ => none }
def fnExactIsClashRow : OpenClaim := { program := "ytkdlcenchnimlaa", sum := "6603c8b077449f6330fc9c19c7b325d0790870fe7f64ead60f0d203cb4b1b2a2", func := "loop.example/g00233/laws.FnExactIsClash", spec := "fnExactIsClash", unfollowed := true, recurses := true, apart := false }
def FnExactIsClashSaid : Prop := fnExactIsClashRow.holds Try.pinned (OpenSpec.ofChange fnExactIsClashSpec)

/-- ITS FALSE NEIGHBOUR: 'it returns false'. Refute it at one input. -/
def fnExactIsClashWrong : ChangeSpec := { name := "fnExactIsClash", fn := fun _ => fun
  | [d1, d2, d3] => { results := [.lit (.bool false)], args := [d1, d2, d3] }
  | _ => none }
def FnExactIsClashWrongFalsely : Prop := fnExactIsClashRow.holds Try.pinned (OpenSpec.ofChange fnExactIsClashWrong)

/-- 'laws.FnTiles': WHATEVER THE INPUT: true; the input reads as it did. -/
def fnTilesSpec : ChangeSpec := { name := "fnTiles", fn := fun _ => fun
  | [d] => { results := [.lit (.bool true)], args := [d] }
  | _ => none }
def fnTilesRow : OpenClaim := { program := "ytkdlcenchnimlaa", sum := "6603c8b077449f6330fc9c19c7b325d0790870fe7f64ead60f0d203cb4b1b2a2", func := "loop.example/g00233/laws.FnTiles", spec := "fnTiles", unfollowed := true, recurses := true, apart := false }
def FnTilesSaid : Prop := fnTilesRow.holds Try.pinned (OpenSpec.ofChange fnTilesSpec)

/-- ITS FALSE NEIGHBOUR: 'it returns false'. Refute it at one input. -/
def fnTilesWrong : ChangeSpec := { name := "fnTiles", fn := fun _ => fun
  | [d] => { results := [.lit (.bool false)], args := [d] }
  | _ => none }
def FnTilesWrongFalsely : Prop := fnTilesRow.holds Try.pinned (OpenSpec.ofChange fnTilesWrong)

/-- 'laws.FnExactFallStore': WHATEVER THE INPUT: true; the input reads as it did. -/
def fnExactFallStoreSpec : ChangeSpec := { name := "fnExactFallStore", fn := fun _ => fun
  | [d1, d2] => { results := [.lit (.bool true)], args := [d1, d2] }
  | _ => none }
def fnExactFallStoreRow : OpenClaim := { program := "ytkdlcenchnimlaa", sum := "6603c8b077449f6330fc9c19c7b325d0790870fe7f64ead60f0d203cb4b1b2a2", func := "loop.example/g00233/laws.FnExactFallStore", spec := "fnExactFallStore", apart := false }
def FnExactFallStoreSaid : Prop := fnExactFallStoreRow.holds Try.pinned (OpenSpec.ofChange fnExactFallStoreSpec)

/-- ITS FALSE NEIGHBOUR: 'it returns false'. Refute it at one input. -/
def fnExactFallStoreWrong : ChangeSpec := { name := "fnExactFallStore", fn := fun _ => fun
  | [d1, d2] => { results := [.lit (.bool false)], args := [d1, d2] }
  | _ => none }
def FnExactFallStoreWrongFalsely : Prop := fnExactFallStoreRow.holds Try.pinned (OpenSpec.ofChange fnExactFallStoreWrong)

/-- 'laws.FnHeads': WHATEVER THE INPUT: true; the input reads as it did. -/
def fnHeadsSpec : ChangeSpec := { name := "fnHeads", fn := fun _ => fun
  | [d] => { results := [.lit (.bool true)], args := [d] }
  | _ => none }
def fnHeadsRow : OpenClaim := { program := "ytkdlcenchnimlaa", sum := "6603c8b077449f6330fc9c19c7b325d0790870fe7f64ead60f0d203cb4b1b2a2", func := "loop.example/g00233/laws.FnHeads", spec := "fnHeads", recurses := true, apart := false }
def FnHeadsSaid : Prop := fnHeadsRow.holds Try.pinned (OpenSpec.ofChange fnHeadsSpec)

/-- ITS FALSE NEIGHBOUR: 'it returns false'. Refute it at one input. -/
def fnHeadsWrong : ChangeSpec := { name := "fnHeads", fn := fun _ => fun
  | [d] => { results := [.lit (.bool false)], args := [d] }
  | _ => none }
def FnHeadsWrongFalsely : Prop := fnHeadsRow.holds Try.pinned (OpenSpec.ofChange fnHeadsWrong)

/-- 'laws.FnExactTileRoot': WHATEVER THE INPUT: true; the input reads as it did. -/
def fnExactTileRootSpec : ChangeSpec := { name := "fnExactTileRoot", fn := fun _ => fun
  | [d] => { results := [.lit (.bool true)], args := [d] }
  | _ => none }
def fnExactTileRootRow : OpenClaim := { program := "ytkdlcenchnimlaa", sum := "6603c8b077449f6330fc9c19c7b325d0790870fe7f64ead60f0d203cb4b1b2a2", func := "loop.example/g00233/laws.FnExactTileRoot", spec := "fnExactTileRoot", unfollowed := true, recurses := true, apart := false }
def FnExactTileRootSaid : Prop := fnExactTileRootRow.holds Try.pinned (OpenSpec.ofChange fnExactTileRootSpec)

/-- ITS FALSE NEIGHBOUR: 'it returns false'. Refute it at one input. -/
def fnExactTileRootWrong : ChangeSpec := { name := "fnExactTileRoot", fn := fun _ => fun
  | [d] => { results := [.lit (.bool false)], args := [d] }
  | _ => none }
def FnExactTileRootWrongFalsely : Prop := fnExactTileRootRow.holds Try.pinned (OpenSpec.ofChange fnExactTileRootWrong)

/- THE SECOND FORM. 'bulk': how many values and letters a reading holds, each counted each time it is reached (what is shared counts as often as it is met; a slice's spare places count too). A statement '..UptoSaid' is the law's where the arguments, and the package variables that the reading takes, are together of bulk at most 1048576: NARROWER than '..Said'. Prove '..Said' where nothing that the law and all that it calls make is longer than what came in: it says more and counts as full. Else prove '..UptoSaid'. A law counts once. -/
mutual
def uptoBulk {H : Type} : DataW H → Nat
  | .lit (.string bytes) => bytes.length + 1
  | .lit _ => 1
  | .nil => 1
  | .ptr d => uptoBulk d + 1
  | .slice elems spare => uptoBulkAll elems + uptoBulkAll spare + 1
  | .agg parts => uptoBulkAll parts + 1
  | .iface _ d => uptoBulk d + 1
  | .map entries => uptoBulkEntries entries + 1
  | .held _ => 1
def uptoBulkAll {H : Type} : List (DataW H) → Nat
  | [] => 0
  | d :: r => uptoBulk d + uptoBulkAll r
def uptoBulkEntries {H : Type} : List (Lit × DataW H) → Nat
  | [] => 0
  | x :: r => uptoBulkEntry x + uptoBulkEntries r
def uptoBulkEntry {H : Type} : Lit × DataW H → Nat
  | (.string bytes, d) => bytes.length + uptoBulk d + 1
  | (_, d) => uptoBulk d + 1
 end
def uptoSmall : (H : Type) → List (DataW H) → Bool := fun _ ds => decide (uptoBulkAll ds ≤ 1048576)
def OpenSpec.upto (s : _root_.Go.ChangeSpec) : _root_.Go.OpenSpec := { _root_.Go.OpenSpec.ofChange s with cond := some uptoSmall }

/-- 'laws.FnExactHeadOk', WHERE WHAT IT READS IS OF BULK AT MOST 1048576: true; the input reads as it did. -/
def fnExactHeadOkUptoRow : OpenClaim := { program := "ytkdlcenchnimlaa", sum := "6603c8b077449f6330fc9c19c7b325d0790870fe7f64ead60f0d203cb4b1b2a2", func := "loop.example/g00233/laws.FnExactHeadOk", spec := "fnExactHeadOk", apart := false, narrowed := true }
def FnExactHeadOkUptoSaid : Prop := fnExactHeadOkUptoRow.holds Try.pinned (OpenSpec.upto fnExactHeadOkSpec)

/-- 'laws.FnExactTileCount', WHERE WHAT IT READS IS OF BULK AT MOST 1048576: true; the input reads as it did. -/
def fnExactTileCountUptoRow : OpenClaim := { program := "ytkdlcenchnimlaa", sum := "6603c8b077449f6330fc9c19c7b325d0790870fe7f64ead60f0d203cb4b1b2a2", func := "loop.example/g00233/laws.FnExactTileCount", spec := "fnExactTileCount", apart := false, narrowed := true }
def FnExactTileCountUptoSaid : Prop := fnExactTileCountUptoRow.holds Try.pinned (OpenSpec.upto fnExactTileCountSpec)

/-- 'laws.FnExactFork', WHERE WHAT IT READS IS OF BULK AT MOST 1048576: true; the input reads as it did. -/
def fnExactForkUptoRow : OpenClaim := { program := "ytkdlcenchnimlaa", sum := "6603c8b077449f6330fc9c19c7b325d0790870fe7f64ead60f0d203cb4b1b2a2", func := "loop.example/g00233/laws.FnExactFork", spec := "fnExactFork", apart := false, narrowed := true }
def FnExactForkUptoSaid : Prop := fnExactForkUptoRow.holds Try.pinned (OpenSpec.upto fnExactForkSpec)

/-- 'laws.FnExactBestHead', WHERE WHAT IT READS IS OF BULK AT MOST 1048576: true; the input reads as it did. -/
def fnExactBestHeadUptoRow : OpenClaim := { program := "ytkdlcenchnimlaa", sum := "6603c8b077449f6330fc9c19c7b325d0790870fe7f64ead60f0d203cb4b1b2a2", func := "loop.example/g00233/laws.FnExactBestHead", spec := "fnExactBestHead", apart := false, narrowed := true }
def FnExactBestHeadUptoSaid : Prop := fnExactBestHeadUptoRow.holds Try.pinned (OpenSpec.upto fnExactBestHeadSpec)

/-- 'laws.FnExactIsSigned', WHERE WHAT IT READS IS OF BULK AT MOST 1048576: true; the input reads as it did. -/
def fnExactIsSignedUptoRow : OpenClaim := { program := "ytkdlcenchnimlaa", sum := "6603c8b077449f6330fc9c19c7b325d0790870fe7f64ead60f0d203cb4b1b2a2", func := "loop.example/g00233/laws.FnExactIsSigned", spec := "fnExactIsSigned", apart := false, narrowed := true }
def FnExactIsSignedUptoSaid : Prop := fnExactIsSignedUptoRow.holds Try.pinned (OpenSpec.upto fnExactIsSignedSpec)

/-- 'laws.FnExactMsgOk', WHERE WHAT IT READS IS OF BULK AT MOST 1048576: true; the input reads as it did. -/
def fnExactMsgOkUptoRow : OpenClaim := { program := "ytkdlcenchnimlaa", sum := "6603c8b077449f6330fc9c19c7b325d0790870fe7f64ead60f0d203cb4b1b2a2", func := "loop.example/g00233/laws.FnExactMsgOk", spec := "fnExactMsgOk", apart := false, narrowed := true }
def FnExactMsgOkUptoSaid : Prop := fnExactMsgOkUptoRow.holds Try.pinned (OpenSpec.upto fnExactMsgOkSpec)

/-- 'laws.FnExactIsClash', WHERE WHAT IT READS IS OF BULK AT MOST 1048576: true; the input reads as it did. -/
def fnExactIsClashUptoRow : OpenClaim := { program := "ytkdlcenchnimlaa", sum := "6603c8b077449f6330fc9c19c7b325d0790870fe7f64ead60f0d203cb4b1b2a2", func := "loop.example/g00233/laws.FnExactIsClash", spec := "fnExactIsClash", unfollowed := true, recurses := true, apart := false, narrowed := true }
def FnExactIsClashUptoSaid : Prop := fnExactIsClashUptoRow.holds Try.pinned (OpenSpec.upto fnExactIsClashSpec)

/-- 'laws.FnTiles', WHERE WHAT IT READS IS OF BULK AT MOST 1048576: true; the input reads as it did. -/
def fnTilesUptoRow : OpenClaim := { program := "ytkdlcenchnimlaa", sum := "6603c8b077449f6330fc9c19c7b325d0790870fe7f64ead60f0d203cb4b1b2a2", func := "loop.example/g00233/laws.FnTiles", spec := "fnTiles", unfollowed := true, recurses := true, apart := false, narrowed := true }
def FnTilesUptoSaid : Prop := fnTilesUptoRow.holds Try.pinned (OpenSpec.upto fnTilesSpec)

/-- 'laws.FnExactFallStore', WHERE WHAT IT READS IS OF BULK AT MOST 1048576: true; the input reads as it did. -/
def fnExactFallStoreUptoRow : OpenClaim := { program := "ytkdlcenchnimlaa", sum := "6603c8b077449f6330fc9c19c7b325d0790870fe7f64ead60f0d203cb4b1b2a2", func := "loop.example/g00233/laws.FnExactFallStore", spec := "fnExactFallStore", apart := false, narrowed := true }
def FnExactFallStoreUptoSaid : Prop := fnExactFallStoreUptoRow.holds Try.pinned (OpenSpec.upto fnExactFallStoreSpec)

/-- 'laws.FnHeads', WHERE WHAT IT READS IS OF BULK AT MOST 1048576: true; the input reads as it did. -/
def fnHeadsUptoRow : OpenClaim := { program := "ytkdlcenchnimlaa", sum := "6603c8b077449f6330fc9c19c7b325d0790870fe7f64ead60f0d203cb4b1b2a2", func := "loop.example/g00233/laws.FnHeads", spec := "fnHeads", recurses := true, apart := false, narrowed := true }
def FnHeadsUptoSaid : Prop := fnHeadsUptoRow.holds Try.pinned (OpenSpec.upto fnHeadsSpec)

/-- 'laws.FnExactTileRoot', WHERE WHAT IT READS IS OF BULK AT MOST 1048576: true; the input reads as it did. -/
def fnExactTileRootUptoRow : OpenClaim := { program := "ytkdlcenchnimlaa", sum := "6603c8b077449f6330fc9c19c7b325d0790870fe7f64ead60f0d203cb4b1b2a2", func := "loop.example/g00233/laws.FnExactTileRoot", spec := "fnExactTileRoot", unfollowed := true, recurses := true, apart := false, narrowed := true }
def FnExactTileRootUptoSaid : Prop := fnExactTileRootUptoRow.holds Try.pinned (OpenSpec.upto fnExactTileRootSpec)

end Rows
end Go.Proofs.Ytkdlcenchnimlaa

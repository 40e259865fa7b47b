/-
  No cell of these rows narrows 'for every input' (looked for: loops, veiled, ifaces, maps, wideKeys, modest, calm, conditions, laid).
  DERIVED. THE GIVEN ROWS OF THIS SEAT. 12 by the template 'for every input the law returns true; each argument reads behind the call as it read before'; 0 by the template 'total and deterministic' (their statements: YtoipfpjcpngpfaaTotals.lean).
  GIVEN WITH THE SEED: the statements are not yours to turn. If you find one false, say at which input.
  Laid BY PROGRAM, IN A SANDBOX (cutbox-rows.mjs): the forced cells as the released guide's own fill.sh prints them over the translation f1e0fcc65558031d… (all of the seat's roots in one cut). By AI agents, Wed Nov 11 2026. No macro, syntax, notation, axiom, sorry.
-/
import Derived.Test.YtoipfpjcpngpfaaChecked
import GoSem.Claim
import GoSem.ClaimJoined
import GoSem.ClaimMapViews
import Derived.JoinedTies
import Derived.KernelRfl
namespace Go.Proofs.Ytoipfpjcpngpfaa
/- THE CELL 'sum', in the pinned program and in every row, IS THE sha256 OF THE DUMP (.gsa) THAT YtoipfpjcpngpfaaProg.lean LOADS. Nothing in Lean hashes anything: it is a label: what it is worth is what the hold of that sum in a sandbox is worth. -/
noncomputable def Try.pinned : Pinned := { name := "ytoipfpjcpngpfaa", sum := "f1e0fcc65558031dbbfb8c999f982327a9ffbee428de8b2061a02ef625faca35", checked := Try.checked }
namespace Rows
def none {H : Type} : Left H := { results := [], args := [] }

/-- 'laws.FnExactPutMsg': WHATEVER THE INPUT: true; the input reads as it did. -/
def fnExactPutMsgSpec : ChangeSpec := { name := "fnExactPutMsg", fn := fun _ => fun
  | [d] => { results := [.lit (.bool true)], args := [d] }
  | _ => none }
def fnExactPutMsgRow : OpenClaim := { program := "ytoipfpjcpngpfaa", sum := "f1e0fcc65558031dbbfb8c999f982327a9ffbee428de8b2061a02ef625faca35", func := "loop.example/g00233/laws.FnExactPutMsg", spec := "fnExactPutMsg", apart := false }
def FnExactPutMsgSaid : Prop := fnExactPutMsgRow.holds Try.pinned (OpenSpec.ofChange fnExactPutMsgSpec)

/-- ITS FALSE NEIGHBOUR: 'it returns false'. Refute it at one input. -/
def fnExactPutMsgWrong : ChangeSpec := { name := "fnExactPutMsg", fn := fun _ => fun
  | [d] => { results := [.lit (.bool false)], args := [d] }
  | _ => none }
def FnExactPutMsgWrongFalsely : Prop := fnExactPutMsgRow.holds Try.pinned (OpenSpec.ofChange fnExactPutMsgWrong)

/-- 'laws.FnExactGetMsg': WHATEVER THE INPUT: true; the input reads as it did. -/
def fnExactGetMsgSpec : ChangeSpec := { name := "fnExactGetMsg", fn := fun _ => fun
  | [d] => { results := [.lit (.bool true)], args := [d] }
  | _ => none }
def fnExactGetMsgRow : OpenClaim := { program := "ytoipfpjcpngpfaa", sum := "f1e0fcc65558031dbbfb8c999f982327a9ffbee428de8b2061a02ef625faca35", func := "loop.example/g00233/laws.FnExactGetMsg", spec := "fnExactGetMsg", apart := false }
def FnExactGetMsgSaid : Prop := fnExactGetMsgRow.holds Try.pinned (OpenSpec.ofChange fnExactGetMsgSpec)

/-- ITS FALSE NEIGHBOUR: 'it returns false'. Refute it at one input. -/
def fnExactGetMsgWrong : ChangeSpec := { name := "fnExactGetMsg", fn := fun _ => fun
  | [d] => { results := [.lit (.bool false)], args := [d] }
  | _ => none }
def FnExactGetMsgWrongFalsely : Prop := fnExactGetMsgRow.holds Try.pinned (OpenSpec.ofChange fnExactGetMsgWrong)

/-- 'laws.FnExactPutCommit': WHATEVER THE INPUT: true; the input reads as it did. -/
def fnExactPutCommitSpec : ChangeSpec := { name := "fnExactPutCommit", fn := fun _ => fun
  | [d1, d2] => { results := [.lit (.bool true)], args := [d1, d2] }
  | _ => none }
def fnExactPutCommitRow : OpenClaim := { program := "ytoipfpjcpngpfaa", sum := "f1e0fcc65558031dbbfb8c999f982327a9ffbee428de8b2061a02ef625faca35", func := "loop.example/g00233/laws.FnExactPutCommit", spec := "fnExactPutCommit", unfollowed := true, recurses := true, apart := false }
def FnExactPutCommitSaid : Prop := fnExactPutCommitRow.holds Try.pinned (OpenSpec.ofChange fnExactPutCommitSpec)

/-- ITS FALSE NEIGHBOUR: 'it returns false'. Refute it at one input. -/
def fnExactPutCommitWrong : ChangeSpec := { name := "fnExactPutCommit", fn := fun _ => fun
  | [d1, d2] => { results := [.lit (.bool false)], args := [d1, d2] }
  | _ => none }
def FnExactPutCommitWrongFalsely : Prop := fnExactPutCommitRow.holds Try.pinned (OpenSpec.ofChange fnExactPutCommitWrong)

/-- 'laws.FnClashes': WHATEVER THE INPUT: true; the input reads as it did. -/
def fnClashesSpec : ChangeSpec := { name := "fnClashes", fn := fun _ => fun
  | [d] => { results := [.lit (.bool true)], args := [d] }
  | _ => none }
def fnClashesRow : OpenClaim := { program := "ytoipfpjcpngpfaa", sum := "f1e0fcc65558031dbbfb8c999f982327a9ffbee428de8b2061a02ef625faca35", func := "loop.example/g00233/laws.FnClashes", spec := "fnClashes", unfollowed := true, recurses := true, apart := false }
def FnClashesSaid : Prop := fnClashesRow.holds Try.pinned (OpenSpec.ofChange fnClashesSpec)

/-- ITS FALSE NEIGHBOUR: 'it returns false'. Refute it at one input. -/
def fnClashesWrong : ChangeSpec := { name := "fnClashes", fn := fun _ => fun
  | [d] => { results := [.lit (.bool false)], args := [d] }
  | _ => none }
def FnClashesWrongFalsely : Prop := fnClashesRow.holds Try.pinned (OpenSpec.ofChange fnClashesWrong)

/-- 'laws.FnExactEdgeAdd': WHATEVER THE INPUT: true; the input reads as it did. -/
def fnExactEdgeAddSpec : ChangeSpec := { name := "fnExactEdgeAdd", fn := fun _ => fun
  | [d1, d2] => { results := [.lit (.bool true)], args := [d1, d2] }
  | _ => none }
def fnExactEdgeAddRow : OpenClaim := { program := "ytoipfpjcpngpfaa", sum := "f1e0fcc65558031dbbfb8c999f982327a9ffbee428de8b2061a02ef625faca35", func := "loop.example/g00233/laws.FnExactEdgeAdd", spec := "fnExactEdgeAdd", unfollowed := true, recurses := true, apart := false }
def FnExactEdgeAddSaid : Prop := fnExactEdgeAddRow.holds Try.pinned (OpenSpec.ofChange fnExactEdgeAddSpec)

/-- ITS FALSE NEIGHBOUR: 'it returns false'. Refute it at one input. -/
def fnExactEdgeAddWrong : ChangeSpec := { name := "fnExactEdgeAdd", fn := fun _ => fun
  | [d1, d2] => { results := [.lit (.bool false)], args := [d1, d2] }
  | _ => none }
def FnExactEdgeAddWrongFalsely : Prop := fnExactEdgeAddRow.holds Try.pinned (OpenSpec.ofChange fnExactEdgeAddWrong)

/-- 'laws.FnCommits': WHATEVER THE INPUT: true; the input reads as it did. -/
def fnCommitsSpec : ChangeSpec := { name := "fnCommits", fn := fun _ => fun
  | [d] => { results := [.lit (.bool true)], args := [d] }
  | _ => none }
def fnCommitsRow : OpenClaim := { program := "ytoipfpjcpngpfaa", sum := "f1e0fcc65558031dbbfb8c999f982327a9ffbee428de8b2061a02ef625faca35", func := "loop.example/g00233/laws.FnCommits", spec := "fnCommits", unfollowed := true, recurses := true, apart := false }
def FnCommitsSaid : Prop := fnCommitsRow.holds Try.pinned (OpenSpec.ofChange fnCommitsSpec)

/-- ITS FALSE NEIGHBOUR: 'it returns false'. Refute it at one input. -/
def fnCommitsWrong : ChangeSpec := { name := "fnCommits", fn := fun _ => fun
  | [d] => { results := [.lit (.bool false)], args := [d] }
  | _ => none }
def FnCommitsWrongFalsely : Prop := fnCommitsRow.holds Try.pinned (OpenSpec.ofChange fnCommitsWrong)

/-- 'laws.FnEdgesRight': WHATEVER THE INPUT: true; the input reads as it did. -/
def fnEdgesRightSpec : ChangeSpec := { name := "fnEdgesRight", fn := fun _ => fun
  | [d] => { results := [.lit (.bool true)], args := [d] }
  | _ => none }
def fnEdgesRightRow : OpenClaim := { program := "ytoipfpjcpngpfaa", sum := "f1e0fcc65558031dbbfb8c999f982327a9ffbee428de8b2061a02ef625faca35", func := "loop.example/g00233/laws.FnEdgesRight", spec := "fnEdgesRight", unfollowed := true, recurses := true, apart := false }
def FnEdgesRightSaid : Prop := fnEdgesRightRow.holds Try.pinned (OpenSpec.ofChange fnEdgesRightSpec)

/-- ITS FALSE NEIGHBOUR: 'it returns false'. Refute it at one input. -/
def fnEdgesRightWrong : ChangeSpec := { name := "fnEdgesRight", fn := fun _ => fun
  | [d] => { results := [.lit (.bool false)], args := [d] }
  | _ => none }
def FnEdgesRightWrongFalsely : Prop := fnEdgesRightRow.holds Try.pinned (OpenSpec.ofChange fnEdgesRightWrong)

/-- 'laws.FnExactEdgeAll': WHATEVER THE INPUT: true; the input reads as it did. -/
def fnExactEdgeAllSpec : ChangeSpec := { name := "fnExactEdgeAll", fn := fun _ => fun
  | [d1, d2] => { results := [.lit (.bool true)], args := [d1, d2] }
  | _ => none }
def fnExactEdgeAllRow : OpenClaim := { program := "ytoipfpjcpngpfaa", sum := "f1e0fcc65558031dbbfb8c999f982327a9ffbee428de8b2061a02ef625faca35", func := "loop.example/g00233/laws.FnExactEdgeAll", spec := "fnExactEdgeAll", unfollowed := true, recurses := true, apart := false }
def FnExactEdgeAllSaid : Prop := fnExactEdgeAllRow.holds Try.pinned (OpenSpec.ofChange fnExactEdgeAllSpec)

/-- ITS FALSE NEIGHBOUR: 'it returns false'. Refute it at one input. -/
def fnExactEdgeAllWrong : ChangeSpec := { name := "fnExactEdgeAll", fn := fun _ => fun
  | [d1, d2] => { results := [.lit (.bool false)], args := [d1, d2] }
  | _ => none }
def FnExactEdgeAllWrongFalsely : Prop := fnExactEdgeAllRow.holds Try.pinned (OpenSpec.ofChange fnExactEdgeAllWrong)

/-- 'laws.FnExactGetCommit': WHATEVER THE INPUT: true; the input reads as it did. -/
def fnExactGetCommitSpec : ChangeSpec := { name := "fnExactGetCommit", fn := fun _ => fun
  | [d1, d2] => { results := [.lit (.bool true)], args := [d1, d2] }
  | _ => none }
def fnExactGetCommitRow : OpenClaim := { program := "ytoipfpjcpngpfaa", sum := "f1e0fcc65558031dbbfb8c999f982327a9ffbee428de8b2061a02ef625faca35", func := "loop.example/g00233/laws.FnExactGetCommit", spec := "fnExactGetCommit", unfollowed := true, recurses := true, apart := false }
def FnExactGetCommitSaid : Prop := fnExactGetCommitRow.holds Try.pinned (OpenSpec.ofChange fnExactGetCommitSpec)

/-- ITS FALSE NEIGHBOUR: 'it returns false'. Refute it at one input. -/
def fnExactGetCommitWrong : ChangeSpec := { name := "fnExactGetCommit", fn := fun _ => fun
  | [d1, d2] => { results := [.lit (.bool false)], args := [d1, d2] }
  | _ => none }
def FnExactGetCommitWrongFalsely : Prop := fnExactGetCommitRow.holds Try.pinned (OpenSpec.ofChange fnExactGetCommitWrong)

/-- 'laws.FnProved': WHATEVER THE INPUT: true; the input reads as it did. -/
def fnProvedSpec : ChangeSpec := { name := "fnProved", fn := fun _ => fun
  | [d] => { results := [.lit (.bool true)], args := [d] }
  | _ => none }
def fnProvedRow : OpenClaim := { program := "ytoipfpjcpngpfaa", sum := "f1e0fcc65558031dbbfb8c999f982327a9ffbee428de8b2061a02ef625faca35", func := "loop.example/g00233/laws.FnProved", spec := "fnProved", unfollowed := true, recurses := true, apart := false }
def FnProvedSaid : Prop := fnProvedRow.holds Try.pinned (OpenSpec.ofChange fnProvedSpec)

/-- ITS FALSE NEIGHBOUR: 'it returns false'. Refute it at one input. -/
def fnProvedWrong : ChangeSpec := { name := "fnProved", fn := fun _ => fun
  | [d] => { results := [.lit (.bool false)], args := [d] }
  | _ => none }
def FnProvedWrongFalsely : Prop := fnProvedRow.holds Try.pinned (OpenSpec.ofChange fnProvedWrong)

/-- 'laws.FnExtended': WHATEVER THE INPUT: true; the input reads as it did. -/
def fnExtendedSpec : ChangeSpec := { name := "fnExtended", fn := fun _ => fun
  | [d] => { results := [.lit (.bool true)], args := [d] }
  | _ => none }
def fnExtendedRow : OpenClaim := { program := "ytoipfpjcpngpfaa", sum := "f1e0fcc65558031dbbfb8c999f982327a9ffbee428de8b2061a02ef625faca35", func := "loop.example/g00233/laws.FnExtended", spec := "fnExtended", unfollowed := true, recurses := true, apart := false }
def FnExtendedSaid : Prop := fnExtendedRow.holds Try.pinned (OpenSpec.ofChange fnExtendedSpec)

/-- ITS FALSE NEIGHBOUR: 'it returns false'. Refute it at one input. -/
def fnExtendedWrong : ChangeSpec := { name := "fnExtended", fn := fun _ => fun
  | [d] => { results := [.lit (.bool false)], args := [d] }
  | _ => none }
def FnExtendedWrongFalsely : Prop := fnExtendedRow.holds Try.pinned (OpenSpec.ofChange fnExtendedWrong)

/-- 'laws.FnExactExtend': WHATEVER THE INPUT: true; the input reads as it did. -/
def fnExactExtendSpec : ChangeSpec := { name := "fnExactExtend", fn := fun _ => fun
  | [d1, d2, d3, d4] => { results := [.lit (.bool true)], args := [d1, d2, d3, d4] }
  | _ => none }
def fnExactExtendRow : OpenClaim := { program := "ytoipfpjcpngpfaa", sum := "f1e0fcc65558031dbbfb8c999f982327a9ffbee428de8b2061a02ef625faca35", func := "loop.example/g00233/laws.FnExactExtend", spec := "fnExactExtend", unfollowed := true, recurses := true, apart := false }
def FnExactExtendSaid : Prop := fnExactExtendRow.holds Try.pinned (OpenSpec.ofChange fnExactExtendSpec)

/-- ITS FALSE NEIGHBOUR: 'it returns false'. Refute it at one input. -/
def fnExactExtendWrong : ChangeSpec := { name := "fnExactExtend", fn := fun _ => fun
  | [d1, d2, d3, d4] => { results := [.lit (.bool false)], args := [d1, d2, d3, d4] }
  | _ => none }
def FnExactExtendWrongFalsely : Prop := fnExactExtendRow.holds Try.pinned (OpenSpec.ofChange fnExactExtendWrong)

/- THE SECOND FORM. 'bulk': how many values and letters a reading holds, each counted each time it is reached (what is shared counts as often as it is met; a slice's spare places count too). A statement '..UptoSaid' is the law's where the arguments, and the package variables that the reading takes, are together of bulk at most 1048576: NARROWER than '..Said'. Prove '..Said' where nothing that the law and all that it calls make is longer than what came in: it says more and counts as full. Else prove '..UptoSaid'. A law counts once. -/
mutual
def uptoBulk {H : Type} : DataW H → Nat
  | .lit (.string bytes) => bytes.length + 1
  | .lit _ => 1
  | .nil => 1
  | .ptr d => uptoBulk d + 1
  | .slice elems spare => uptoBulkAll elems + uptoBulkAll spare + 1
  | .agg parts => uptoBulkAll parts + 1
  | .iface _ d => uptoBulk d + 1
  | .map entries => uptoBulkEntries entries + 1
  | .held _ => 1
def uptoBulkAll {H : Type} : List (DataW H) → Nat
  | [] => 0
  | d :: r => uptoBulk d + uptoBulkAll r
def uptoBulkEntries {H : Type} : List (Lit × DataW H) → Nat
  | [] => 0
  | x :: r => uptoBulkEntry x + uptoBulkEntries r
def uptoBulkEntry {H : Type} : Lit × DataW H → Nat
  | (.string bytes, d) => bytes.length + uptoBulk d + 1
  | (_, d) => uptoBulk d + 1
 end
def uptoSmall : (H : Type) → List (DataW H) → Bool := fun _ ds => decide (uptoBulkAll ds ≤ 1048576)
def OpenSpec.upto (s : _root_.Go.ChangeSpec) : _root_.Go.OpenSpec := { _root_.Go.OpenSpec.ofChange s with cond := some uptoSmall }

/-- 'laws.FnExactPutMsg', WHERE WHAT IT READS IS OF BULK AT MOST 1048576: true; the input reads as it did. -/
def fnExactPutMsgUptoRow : OpenClaim := { program := "ytoipfpjcpngpfaa", sum := "f1e0fcc65558031dbbfb8c999f982327a9ffbee428de8b2061a02ef625faca35", func := "loop.example/g00233/laws.FnExactPutMsg", spec := "fnExactPutMsg", apart := false, narrowed := true }
def FnExactPutMsgUptoSaid : Prop := fnExactPutMsgUptoRow.holds Try.pinned (OpenSpec.upto fnExactPutMsgSpec)

/-- 'laws.FnExactGetMsg', WHERE WHAT IT READS IS OF BULK AT MOST 1048576: true; the input reads as it did. -/
def fnExactGetMsgUptoRow : OpenClaim := { program := "ytoipfpjcpngpfaa", sum := "f1e0fcc65558031dbbfb8c999f982327a9ffbee428de8b2061a02ef625faca35", func := "loop.example/g00233/laws.FnExactGetMsg", spec := "fnExactGetMsg", apart := false, narrowed := true }
def FnExactGetMsgUptoSaid : Prop := fnExactGetMsgUptoRow.holds Try.pinned (OpenSpec.upto fnExactGetMsgSpec)

/-- 'laws.FnExactPutCommit', WHERE WHAT IT READS IS OF BULK AT MOST 1048576: true; the input reads as it did. -/
def fnExactPutCommitUptoRow : OpenClaim := { program := "ytoipfpjcpngpfaa", sum := "f1e0fcc65558031dbbfb8c999f982327a9ffbee428de8b2061a02ef625faca35", func := "loop.example/g00233/laws.FnExactPutCommit", spec := "fnExactPutCommit", unfollowed := true, recurses := true, apart := false, narrowed := true }
def FnExactPutCommitUptoSaid : Prop := fnExactPutCommitUptoRow.holds Try.pinned (OpenSpec.upto fnExactPutCommitSpec)

/-- 'laws.FnClashes', WHERE WHAT IT READS IS OF BULK AT MOST 1048576: true; the input reads as it did. -/
def fnClashesUptoRow : OpenClaim := { program := "ytoipfpjcpngpfaa", sum := "f1e0fcc65558031dbbfb8c999f982327a9ffbee428de8b2061a02ef625faca35", func := "loop.example/g00233/laws.FnClashes", spec := "fnClashes", unfollowed := true, recurses := true, apart := false, narrowed := true }
def FnClashesUptoSaid : Prop := fnClashesUptoRow.holds Try.pinned (OpenSpec.upto fnClashesSpec)

/-- 'laws.FnExactEdgeAdd', WHERE WHAT IT READS IS OF BULK AT MOST 1048576: true; the input reads as it did. -/
def fnExactEdgeAddUptoRow : OpenClaim := { program := "ytoipfpjcpngpfaa", sum := "f1e0fcc65558031dbbfb8c999f982327a9ffbee428de8b2061a02ef625faca35", func := "loop.example/g00233/laws.FnExactEdgeAdd", spec := "fnExactEdgeAdd", unfollowed := true, recurses := true, apart := false, narrowed := true }
def FnExactEdgeAddUptoSaid : Prop := fnExactEdgeAddUptoRow.holds Try.pinned (OpenSpec.upto fnExactEdgeAddSpec)

/-- 'laws.FnCommits', WHERE WHAT IT READS IS OF BULK AT MOST 1048576: true; the input reads as it did. -/
def fnCommitsUptoRow : OpenClaim := { program := "ytoipfpjcpngpfaa", sum := "f1e0fcc65558031dbbfb8c999f982327a9ffbee428de8b2061a02ef625faca35", func := "loop.example/g00233/laws.FnCommits", spec := "fnCommits", unfollowed := true, recurses := true, apart := false, narrowed := true }
def FnCommitsUptoSaid : Prop := fnCommitsUptoRow.holds Try.pinned (OpenSpec.upto fnCommitsSpec)

/-- 'laws.FnEdgesRight', WHERE WHAT IT READS IS OF BULK AT MOST 1048576: true; the input reads as it did. -/
def fnEdgesRightUptoRow : OpenClaim := { program := "ytoipfpjcpngpfaa", sum := "f1e0fcc65558031dbbfb8c999f982327a9ffbee428de8b2061a02ef625faca35", func := "loop.example/g00233/laws.FnEdgesRight", spec := "fnEdgesRight", unfollowed := true, recurses := true, apart := false, narrowed := true }
def FnEdgesRightUptoSaid : Prop := fnEdgesRightUptoRow.holds Try.pinned (OpenSpec.upto fnEdgesRightSpec)

/-- 'laws.FnExactEdgeAll', WHERE WHAT IT READS IS OF BULK AT MOST 1048576: true; the input reads as it did. -/
def fnExactEdgeAllUptoRow : OpenClaim := { program := "ytoipfpjcpngpfaa", sum := "f1e0fcc65558031dbbfb8c999f982327a9ffbee428de8b2061a02ef625faca35", func := "loop.example/g00233/laws.FnExactEdgeAll", spec := "fnExactEdgeAll", unfollowed := true, recurses := true, apart := false, narrowed := true }
def FnExactEdgeAllUptoSaid : Prop := fnExactEdgeAllUptoRow.holds Try.pinned (OpenSpec.upto fnExactEdgeAllSpec)

/-- 'laws.FnExactGetCommit', WHERE WHAT IT READS IS OF BULK AT MOST 1048576: true; the input reads as it did. -/
def fnExactGetCommitUptoRow : OpenClaim := { program := "ytoipfpjcpngpfaa", sum := "f1e0fcc65558031dbbfb8c999f982327a9ffbee428de8b2061a02ef625faca35", func := "loop.example/g00233/laws.FnExactGetCommit", spec := "fnExactGetCommit", unfollowed := true, recurses := true, apart := false, narrowed := true }
def FnExactGetCommitUptoSaid : Prop := fnExactGetCommitUptoRow.holds Try.pinned (OpenSpec.upto fnExactGetCommitSpec)

/-- 'laws.FnProved', WHERE WHAT IT READS IS OF BULK AT MOST 1048576: true; the input reads as it did. -/
def fnProvedUptoRow : OpenClaim := { program := "ytoipfpjcpngpfaa", sum := "f1e0fcc65558031dbbfb8c999f982327a9ffbee428de8b2061a02ef625faca35", func := "loop.example/g00233/laws.FnProved", spec := "fnProved", unfollowed := true, recurses := true, apart := false, narrowed := true }
def FnProvedUptoSaid : Prop := fnProvedUptoRow.holds Try.pinned (OpenSpec.upto fnProvedSpec)

/-- 'laws.FnExtended', WHERE WHAT IT READS IS OF BULK AT MOST 1048576: true; the input reads as it did. -/
def fnExtendedUptoRow : OpenClaim := { program := "ytoipfpjcpngpfaa", sum := "f1e0fcc65558031dbbfb8c999f982327a9ffbee428de8b2061a02ef625faca35", func := "loop.example/g00233/laws.FnExtended", spec := "fnExtended", unfollowed := true, recurses := true, apart := false, narrowed := true }
def FnExtendedUptoSaid : Prop := fnExtendedUptoRow.holds Try.pinned (OpenSpec.upto fnExtendedSpec)

/-- 'laws.FnExactExtend', WHERE WHAT IT READS IS OF BULK AT MOST 1048576: true; the input reads as it did. -/
def fnExactExtendUptoRow : OpenClaim := { program := "ytoipfpjcpngpfaa", sum := "f1e0fcc65558031dbbfb8c999f982327a9ffbee428de8b2061a02ef625faca35", func := "loop.example/g00233/laws.FnExactExtend", spec := "fnExactExtend", unfollowed := true, recurses := true, apart := false, narrowed := true }
def FnExactExtendUptoSaid : Prop := fnExactExtendUptoRow.holds Try.pinned (OpenSpec.upto fnExactExtendSpec)

end Rows
end Go.Proofs.Ytoipfpjcpngpfaa

/-
  No cell of these rows narrows 'for every input' (looked for: loops, veiled, ifaces, maps, wideKeys, modest, calm, conditions, laid).
  DERIVED. THE GIVEN ROWS OF THIS SEAT. 12 by the template 'for every input the law returns true; each argument reads behind the call as it read before'; 0 by the template 'total and deterministic' (their statements: YtcogimnpffnanaaTotals.lean).
  GIVEN WITH THE SEED: the statements are not yours to turn. If you find one false, say at which input.
  Laid BY PROGRAM, IN A SANDBOX (cutbox-rows.mjs): the forced cells as the released guide's own fill.sh prints them over the translation 35217d421fe48953… (all of the seat's roots in one cut). By AI agents, Wed Nov 11 2026. No macro, syntax, notation, axiom, sorry.
-/
import Derived.Test.YtcogimnpffnanaaChecked
import GoSem.Claim
import GoSem.ClaimJoined
import GoSem.ClaimMapViews
import Derived.JoinedTies
import Derived.KernelRfl
namespace Go.Proofs.Ytcogimnpffnanaa
/- THE CELL 'sum', in the pinned program and in every row, IS THE sha256 OF THE DUMP (.gsa) THAT YtcogimnpffnanaaProg.lean LOADS. Nothing in Lean hashes anything: it is a label: what it is worth is what the hold of that sum in a sandbox is worth. -/
noncomputable def Try.pinned : Pinned := { name := "ytcogimnpffnanaa", sum := "35217d421fe48953e06375ad694c6e4e8886d522dac52284762b31fbc1c647c6", checked := Try.checked }
namespace Rows
def none {H : Type} : Left H := { results := [], args := [] }

/-- 'laws.FnExactIsClash': WHATEVER THE INPUT: true; the input reads as it did. -/
def fnExactIsClashSpec : ChangeSpec := { name := "fnExactIsClash", fn := fun _ => fun
  | [d1, d2, d3] => { results := [.lit (.bool true)], args := [d1, d2, d3] }
  | _ => none }
def fnExactIsClashRow : OpenClaim := { program := "ytcogimnpffnanaa", sum := "35217d421fe48953e06375ad694c6e4e8886d522dac52284762b31fbc1c647c6", func := "loop.example/g00233/laws.FnExactIsClash", spec := "fnExactIsClash", unfollowed := true, recurses := true, apart := false }
def FnExactIsClashSaid : Prop := fnExactIsClashRow.holds Try.pinned (OpenSpec.ofChange fnExactIsClashSpec)

/-- ITS FALSE NEIGHBOUR: 'it returns false'. Refute it at one input. -/
def fnExactIsClashWrong : ChangeSpec := { name := "fnExactIsClash", fn := fun _ => fun
  | [d1, d2, d3] => { results := [.lit (.bool false)], args := [d1, d2, d3] }
  | _ => none }
def FnExactIsClashWrongFalsely : Prop := fnExactIsClashRow.holds Try.pinned (OpenSpec.ofChange fnExactIsClashWrong)

/-- 'laws.FnExactPutMsg': WHATEVER THE INPUT: true; the input reads as it did. -/
def fnExactPutMsgSpec : ChangeSpec := { name := "fnExactPutMsg", fn := fun _ => fun
  | [d] => { results := [.lit (.bool true)], args := [d] }
  | _ => none }
def fnExactPutMsgRow : OpenClaim := { program := "ytcogimnpffnanaa", sum := "35217d421fe48953e06375ad694c6e4e8886d522dac52284762b31fbc1c647c6", func := "loop.example/g00233/laws.FnExactPutMsg", spec := "fnExactPutMsg", apart := false }
def FnExactPutMsgSaid : Prop := fnExactPutMsgRow.holds Try.pinned (OpenSpec.ofChange fnExactPutMsgSpec)

/-- ITS FALSE NEIGHBOUR: 'it returns false'. Refute it at one input. -/
def fnExactPutMsgWrong : ChangeSpec := { name := "fnExactPutMsg", fn := fun _ => fun
  | [d] => { results := [.lit (.bool false)], args := [d] }
  | _ => none }
def FnExactPutMsgWrongFalsely : Prop := fnExactPutMsgRow.holds Try.pinned (OpenSpec.ofChange fnExactPutMsgWrong)

/-- 'laws.FnExactGetMsg': WHATEVER THE INPUT: true; the input reads as it did. -/
def fnExactGetMsgSpec : ChangeSpec := { name := "fnExactGetMsg", fn := fun _ => fun
  | [d] => { results := [.lit (.bool true)], args := [d] }
  | _ => none }
def fnExactGetMsgRow : OpenClaim := { program := "ytcogimnpffnanaa", sum := "35217d421fe48953e06375ad694c6e4e8886d522dac52284762b31fbc1c647c6", func := "loop.example/g00233/laws.FnExactGetMsg", spec := "fnExactGetMsg", apart := false }
def FnExactGetMsgSaid : Prop := fnExactGetMsgRow.holds Try.pinned (OpenSpec.ofChange fnExactGetMsgSpec)

/-- ITS FALSE NEIGHBOUR: 'it returns false'. Refute it at one input. -/
def fnExactGetMsgWrong : ChangeSpec := { name := "fnExactGetMsg", fn := fun _ => fun
  | [d] => { results := [.lit (.bool false)], args := [d] }
  | _ => none }
def FnExactGetMsgWrongFalsely : Prop := fnExactGetMsgRow.holds Try.pinned (OpenSpec.ofChange fnExactGetMsgWrong)

/-- 'laws.FnClashes': WHATEVER THE INPUT: true; the input reads as it did. -/
def fnClashesSpec : ChangeSpec := { name := "fnClashes", fn := fun _ => fun
  | [d] => { results := [.lit (.bool true)], args := [d] }
  | _ => none }
def fnClashesRow : OpenClaim := { program := "ytcogimnpffnanaa", sum := "35217d421fe48953e06375ad694c6e4e8886d522dac52284762b31fbc1c647c6", func := "loop.example/g00233/laws.FnClashes", spec := "fnClashes", unfollowed := true, recurses := true, apart := false }
def FnClashesSaid : Prop := fnClashesRow.holds Try.pinned (OpenSpec.ofChange fnClashesSpec)

/-- ITS FALSE NEIGHBOUR: 'it returns false'. Refute it at one input. -/
def fnClashesWrong : ChangeSpec := { name := "fnClashes", fn := fun _ => fun
  | [d] => { results := [.lit (.bool false)], args := [d] }
  | _ => none }
def FnClashesWrongFalsely : Prop := fnClashesRow.holds Try.pinned (OpenSpec.ofChange fnClashesWrong)

/-- 'laws.FnCommits': WHATEVER THE INPUT: true; the input reads as it did. -/
def fnCommitsSpec : ChangeSpec := { name := "fnCommits", fn := fun _ => fun
  | [d] => { results := [.lit (.bool true)], args := [d] }
  | _ => none }
def fnCommitsRow : OpenClaim := { program := "ytcogimnpffnanaa", sum := "35217d421fe48953e06375ad694c6e4e8886d522dac52284762b31fbc1c647c6", func := "loop.example/g00233/laws.FnCommits", spec := "fnCommits", unfollowed := true, recurses := true, apart := false }
def FnCommitsSaid : Prop := fnCommitsRow.holds Try.pinned (OpenSpec.ofChange fnCommitsSpec)

/-- ITS FALSE NEIGHBOUR: 'it returns false'. Refute it at one input. -/
def fnCommitsWrong : ChangeSpec := { name := "fnCommits", fn := fun _ => fun
  | [d] => { results := [.lit (.bool false)], args := [d] }
  | _ => none }
def FnCommitsWrongFalsely : Prop := fnCommitsRow.holds Try.pinned (OpenSpec.ofChange fnCommitsWrong)

/-- 'laws.FnExactEdgeAll': WHATEVER THE INPUT: true; the input reads as it did. -/
def fnExactEdgeAllSpec : ChangeSpec := { name := "fnExactEdgeAll", fn := fun _ => fun
  | [d1, d2] => { results := [.lit (.bool true)], args := [d1, d2] }
  | _ => none }
def fnExactEdgeAllRow : OpenClaim := { program := "ytcogimnpffnanaa", sum := "35217d421fe48953e06375ad694c6e4e8886d522dac52284762b31fbc1c647c6", func := "loop.example/g00233/laws.FnExactEdgeAll", spec := "fnExactEdgeAll", unfollowed := true, recurses := true, apart := false }
def FnExactEdgeAllSaid : Prop := fnExactEdgeAllRow.holds Try.pinned (OpenSpec.ofChange fnExactEdgeAllSpec)

/-- ITS FALSE NEIGHBOUR: 'it returns false'. Refute it at one input. -/
def fnExactEdgeAllWrong : ChangeSpec := { name := "fnExactEdgeAll", fn := fun _ => fun
  | [d1, d2] => { results := [.lit (.bool false)], args := [d1, d2] }
  | _ => none }
def FnExactEdgeAllWrongFalsely : Prop := fnExactEdgeAllRow.holds Try.pinned (OpenSpec.ofChange fnExactEdgeAllWrong)

/-- 'laws.FnExactGetCommit': WHATEVER THE INPUT: true; the input reads as it did. -/
def fnExactGetCommitSpec : ChangeSpec := { name := "fnExactGetCommit", fn := fun _ => fun
  | [d1, d2] => { results := [.lit (.bool true)], args := [d1, d2] }
  | _ => none }
def fnExactGetCommitRow : OpenClaim := { program := "ytcogimnpffnanaa", sum := "35217d421fe48953e06375ad694c6e4e8886d522dac52284762b31fbc1c647c6", func := "loop.example/g00233/laws.FnExactGetCommit", spec := "fnExactGetCommit", unfollowed := true, recurses := true, apart := false }
def FnExactGetCommitSaid : Prop := fnExactGetCommitRow.holds Try.pinned (OpenSpec.ofChange fnExactGetCommitSpec)

/-- ITS FALSE NEIGHBOUR: 'it returns false'. Refute it at one input. -/
def fnExactGetCommitWrong : ChangeSpec := { name := "fnExactGetCommit", fn := fun _ => fun
  | [d1, d2] => { results := [.lit (.bool false)], args := [d1, d2] }
  | _ => none }
def FnExactGetCommitWrongFalsely : Prop := fnExactGetCommitRow.holds Try.pinned (OpenSpec.ofChange fnExactGetCommitWrong)

/-- 'laws.FnProved': WHATEVER THE INPUT: true; the input reads as it did. -/
def fnProvedSpec : ChangeSpec := { name := "fnProved", fn := fun _ => fun
  | [d] => { results := [.lit (.bool true)], args := [d] }
  | _ => none }
def fnProvedRow : OpenClaim := { program := "ytcogimnpffnanaa", sum := "35217d421fe48953e06375ad694c6e4e8886d522dac52284762b31fbc1c647c6", func := "loop.example/g00233/laws.FnProved", spec := "fnProved", unfollowed := true, recurses := true, apart := false }
def FnProvedSaid : Prop := fnProvedRow.holds Try.pinned (OpenSpec.ofChange fnProvedSpec)

/-- ITS FALSE NEIGHBOUR: 'it returns false'. Refute it at one input. -/
def fnProvedWrong : ChangeSpec := { name := "fnProved", fn := fun _ => fun
  | [d] => { results := [.lit (.bool false)], args := [d] }
  | _ => none }
def FnProvedWrongFalsely : Prop := fnProvedRow.holds Try.pinned (OpenSpec.ofChange fnProvedWrong)

/-- 'laws.FnNew': WHATEVER THE INPUT: true; the input reads as it did. -/
def fnNewSpec : ChangeSpec := { name := "fnNew", fn := fun _ => fun
  | [d] => { results := [.lit (.bool true)], args := [d] }
  | _ => none }
def fnNewRow : OpenClaim := { program := "ytcogimnpffnanaa", sum := "35217d421fe48953e06375ad694c6e4e8886d522dac52284762b31fbc1c647c6", func := "loop.example/g00233/laws.FnNew", spec := "fnNew", unfollowed := true, recurses := true, apart := false }
def FnNewSaid : Prop := fnNewRow.holds Try.pinned (OpenSpec.ofChange fnNewSpec)

/-- ITS FALSE NEIGHBOUR: 'it returns false'. Refute it at one input. -/
def fnNewWrong : ChangeSpec := { name := "fnNew", fn := fun _ => fun
  | [d] => { results := [.lit (.bool false)], args := [d] }
  | _ => none }
def FnNewWrongFalsely : Prop := fnNewRow.holds Try.pinned (OpenSpec.ofChange fnNewWrong)

/-- 'laws.FnWords': WHATEVER THE INPUT: true; the input reads as it did. -/
def fnWordsSpec : ChangeSpec := { name := "fnWords", fn := fun _ => fun
  | [d] => { results := [.lit (.bool true)], args := [d] }
  | _ => none }
def fnWordsRow : OpenClaim := { program := "ytcogimnpffnanaa", sum := "35217d421fe48953e06375ad694c6e4e8886d522dac52284762b31fbc1c647c6", func := "loop.example/g00233/laws.FnWords", spec := "fnWords", recurses := true, apart := false }
def FnWordsSaid : Prop := fnWordsRow.holds Try.pinned (OpenSpec.ofChange fnWordsSpec)

/-- ITS FALSE NEIGHBOUR: 'it returns false'. Refute it at one input. -/
def fnWordsWrong : ChangeSpec := { name := "fnWords", fn := fun _ => fun
  | [d] => { results := [.lit (.bool false)], args := [d] }
  | _ => none }
def FnWordsWrongFalsely : Prop := fnWordsRow.holds Try.pinned (OpenSpec.ofChange fnWordsWrong)

/-- 'laws.FnExactExtend': WHATEVER THE INPUT: true; the input reads as it did. -/
def fnExactExtendSpec : ChangeSpec := { name := "fnExactExtend", fn := fun _ => fun
  | [d1, d2, d3, d4] => { results := [.lit (.bool true)], args := [d1, d2, d3, d4] }
  | _ => none }
def fnExactExtendRow : OpenClaim := { program := "ytcogimnpffnanaa", sum := "35217d421fe48953e06375ad694c6e4e8886d522dac52284762b31fbc1c647c6", func := "loop.example/g00233/laws.FnExactExtend", spec := "fnExactExtend", unfollowed := true, recurses := true, apart := false }
def FnExactExtendSaid : Prop := fnExactExtendRow.holds Try.pinned (OpenSpec.ofChange fnExactExtendSpec)

/-- ITS FALSE NEIGHBOUR: 'it returns false'. Refute it at one input. -/
def fnExactExtendWrong : ChangeSpec := { name := "fnExactExtend", fn := fun _ => fun
  | [d1, d2, d3, d4] => { results := [.lit (.bool false)], args := [d1, d2, d3, d4] }
  | _ => none }
def FnExactExtendWrongFalsely : Prop := fnExactExtendRow.holds Try.pinned (OpenSpec.ofChange fnExactExtendWrong)

/-- 'laws.FnExactStoreOk': WHATEVER THE INPUT: true; the input reads as it did. -/
def fnExactStoreOkSpec : ChangeSpec := { name := "fnExactStoreOk", fn := fun _ => fun
  | [d] => { results := [.lit (.bool true)], args := [d] }
  | _ => none }
def fnExactStoreOkRow : OpenClaim := { program := "ytcogimnpffnanaa", sum := "35217d421fe48953e06375ad694c6e4e8886d522dac52284762b31fbc1c647c6", func := "loop.example/g00233/laws.FnExactStoreOk", spec := "fnExactStoreOk", unfollowed := true, recurses := true, apart := false }
def FnExactStoreOkSaid : Prop := fnExactStoreOkRow.holds Try.pinned (OpenSpec.ofChange fnExactStoreOkSpec)

/-- ITS FALSE NEIGHBOUR: 'it returns false'. Refute it at one input. -/
def fnExactStoreOkWrong : ChangeSpec := { name := "fnExactStoreOk", fn := fun _ => fun
  | [d] => { results := [.lit (.bool false)], args := [d] }
  | _ => none }
def FnExactStoreOkWrongFalsely : Prop := fnExactStoreOkRow.holds Try.pinned (OpenSpec.ofChange fnExactStoreOkWrong)

/- THE SECOND FORM. 'bulk': how many values and letters a reading holds, each counted each time it is reached (what is shared counts as often as it is met; a slice's spare places count too). A statement '..UptoSaid' is the law's where the arguments, and the package variables that the reading takes, are together of bulk at most 1048576: NARROWER than '..Said'. Prove '..Said' where nothing that the law and all that it calls make is longer than what came in: it says more and counts as full. Else prove '..UptoSaid'. A law counts once. -/
mutual
def uptoBulk {H : Type} : DataW H → Nat
  | .lit (.string bytes) => bytes.length + 1
  | .lit _ => 1
  | .nil => 1
  | .ptr d => uptoBulk d + 1
  | .slice elems spare => uptoBulkAll elems + uptoBulkAll spare + 1
  | .agg parts => uptoBulkAll parts + 1
  | .iface _ d => uptoBulk d + 1
  | .map entries => uptoBulkEntries entries + 1
  | .held _ => 1
def uptoBulkAll {H : Type} : List (DataW H) → Nat
  | [] => 0
  | d :: r => uptoBulk d + uptoBulkAll r
def uptoBulkEntries {H : Type} : List (Lit × DataW H) → Nat
  | [] => 0
  | x :: r => uptoBulkEntry x + uptoBulkEntries r
def uptoBulkEntry {H : Type} : Lit × DataW H → Nat
  | (.string bytes, d) => bytes.length + uptoBulk d + 1
  | (_, d) => uptoBulk d + 1
 end
def uptoSmall : (H : Type) → List (DataW H) → Bool := fun _ ds => decide (uptoBulkAll ds ≤ 1048576)
def OpenSpec.upto (s : _root_.Go.ChangeSpec) : _root_.Go.OpenSpec := { _root_.Go.OpenSpec.ofChange s with cond := some uptoSmall }

/-- 'laws.FnExactIsClash', WHERE WHAT IT READS IS OF BULK AT MOST 1048576: true; the input reads as it did. -/
def fnExactIsClashUptoRow : OpenClaim := { program := "ytcogimnpffnanaa", sum := "35217d421fe48953e06375ad694c6e4e8886d522dac52284762b31fbc1c647c6", func := "loop.example/g00233/laws.FnExactIsClash", spec := "fnExactIsClash", unfollowed := true, recurses := true, apart := false, narrowed := true }
def FnExactIsClashUptoSaid : Prop := fnExactIsClashUptoRow.holds Try.pinned (OpenSpec.upto fnExactIsClashSpec)

/-- 'laws.FnExactPutMsg', WHERE WHAT IT READS IS OF BULK AT MOST 1048576: true; the input reads as it did. -/
def fnExactPutMsgUptoRow : OpenClaim := { program := "ytcogimnpffnanaa", sum := "35217d421fe48953e06375ad694c6e4e8886d522dac52284762b31fbc1c647c6", func := "loop.example/g00233/laws.FnExactPutMsg", spec := "fnExactPutMsg", apart := false, narrowed := true }
def FnExactPutMsgUptoSaid : Prop := fnExactPutMsgUptoRow.holds Try.pinned (OpenSpec.upto fnExactPutMsgSpec)

/-- 'laws.FnExactGetMsg', WHERE WHAT IT READS IS OF BULK AT MOST 1048576: true; the input reads as it did. -/
def fnExactGetMsgUptoRow : OpenClaim := { program := "ytcogimnpffnanaa", sum := "35217d421fe48953e06375ad694c6e4e8886d522dac52284762b31fbc1c647c6", func := "loop.example/g00233/laws.FnExactGetMsg", spec := "fnExactGetMsg", apart := false, narrowed := true }
def FnExactGetMsgUptoSaid : Prop := fnExactGetMsgUptoRow.holds Try.pinned (OpenSpec.upto fnExactGetMsgSpec)

/-- 'laws.FnClashes', WHERE WHAT IT READS IS OF BULK AT MOST 1048576: true; the input reads as it did. -/
def fnClashesUptoRow : OpenClaim := { program := "ytcogimnpffnanaa", sum := "35217d421fe48953e06375ad694c6e4e8886d522dac52284762b31fbc1c647c6", func := "loop.example/g00233/laws.FnClashes", spec := "fnClashes", unfollowed := true, recurses := true, apart := false, narrowed := true }
def FnClashesUptoSaid : Prop := fnClashesUptoRow.holds Try.pinned (OpenSpec.upto fnClashesSpec)

/-- 'laws.FnCommits', WHERE WHAT IT READS IS OF BULK AT MOST 1048576: true; the input reads as it did. -/
def fnCommitsUptoRow : OpenClaim := { program := "ytcogimnpffnanaa", sum := "35217d421fe48953e06375ad694c6e4e8886d522dac52284762b31fbc1c647c6", func := "loop.example/g00233/laws.FnCommits", spec := "fnCommits", unfollowed := true, recurses := true, apart := false, narrowed := true }
def FnCommitsUptoSaid : Prop := fnCommitsUptoRow.holds Try.pinned (OpenSpec.upto fnCommitsSpec)

/-- 'laws.FnExactEdgeAll', WHERE WHAT IT READS IS OF BULK AT MOST 1048576: true; the input reads as it did. -/
def fnExactEdgeAllUptoRow : OpenClaim := { program := "ytcogimnpffnanaa", sum := "35217d421fe48953e06375ad694c6e4e8886d522dac52284762b31fbc1c647c6", func := "loop.example/g00233/laws.FnExactEdgeAll", spec := "fnExactEdgeAll", unfollowed := true, recurses := true, apart := false, narrowed := true }
def FnExactEdgeAllUptoSaid : Prop := fnExactEdgeAllUptoRow.holds Try.pinned (OpenSpec.upto fnExactEdgeAllSpec)

/-- 'laws.FnExactGetCommit', WHERE WHAT IT READS IS OF BULK AT MOST 1048576: true; the input reads as it did. -/
def fnExactGetCommitUptoRow : OpenClaim := { program := "ytcogimnpffnanaa", sum := "35217d421fe48953e06375ad694c6e4e8886d522dac52284762b31fbc1c647c6", func := "loop.example/g00233/laws.FnExactGetCommit", spec := "fnExactGetCommit", unfollowed := true, recurses := true, apart := false, narrowed := true }
def FnExactGetCommitUptoSaid : Prop := fnExactGetCommitUptoRow.holds Try.pinned (OpenSpec.upto fnExactGetCommitSpec)

/-- 'laws.FnProved', WHERE WHAT IT READS IS OF BULK AT MOST 1048576: true; the input reads as it did. -/
def fnProvedUptoRow : OpenClaim := { program := "ytcogimnpffnanaa", sum := "35217d421fe48953e06375ad694c6e4e8886d522dac52284762b31fbc1c647c6", func := "loop.example/g00233/laws.FnProved", spec := "fnProved", unfollowed := true, recurses := true, apart := false, narrowed := true }
def FnProvedUptoSaid : Prop := fnProvedUptoRow.holds Try.pinned (OpenSpec.upto fnProvedSpec)

/-- 'laws.FnNew', WHERE WHAT IT READS IS OF BULK AT MOST 1048576: true; the input reads as it did. -/
def fnNewUptoRow : OpenClaim := { program := "ytcogimnpffnanaa", sum := "35217d421fe48953e06375ad694c6e4e8886d522dac52284762b31fbc1c647c6", func := "loop.example/g00233/laws.FnNew", spec := "fnNew", unfollowed := true, recurses := true, apart := false, narrowed := true }
def FnNewUptoSaid : Prop := fnNewUptoRow.holds Try.pinned (OpenSpec.upto fnNewSpec)

/-- 'laws.FnWords', WHERE WHAT IT READS IS OF BULK AT MOST 1048576: true; the input reads as it did. -/
def fnWordsUptoRow : OpenClaim := { program := "ytcogimnpffnanaa", sum := "35217d421fe48953e06375ad694c6e4e8886d522dac52284762b31fbc1c647c6", func := "loop.example/g00233/laws.FnWords", spec := "fnWords", recurses := true, apart := false, narrowed := true }
def FnWordsUptoSaid : Prop := fnWordsUptoRow.holds Try.pinned (OpenSpec.upto fnWordsSpec)

/-- 'laws.FnExactExtend', WHERE WHAT IT READS IS OF BULK AT MOST 1048576: true; the input reads as it did. -/
def fnExactExtendUptoRow : OpenClaim := { program := "ytcogimnpffnanaa", sum := "35217d421fe48953e06375ad694c6e4e8886d522dac52284762b31fbc1c647c6", func := "loop.example/g00233/laws.FnExactExtend", spec := "fnExactExtend", unfollowed := true, recurses := true, apart := false, narrowed := true }
def FnExactExtendUptoSaid : Prop := fnExactExtendUptoRow.holds Try.pinned (OpenSpec.upto fnExactExtendSpec)

/-- 'laws.FnExactStoreOk', WHERE WHAT IT READS IS OF BULK AT MOST 1048576: true; the input reads as it did. -/
def fnExactStoreOkUptoRow : OpenClaim := { program := "ytcogimnpffnanaa", sum := "35217d421fe48953e06375ad694c6e4e8886d522dac52284762b31fbc1c647c6", func := "loop.example/g00233/laws.FnExactStoreOk", spec := "fnExactStoreOk", unfollowed := true, recurses := true, apart := false, narrowed := true }
def FnExactStoreOkUptoSaid : Prop := fnExactStoreOkUptoRow.holds Try.pinned (OpenSpec.upto fnExactStoreOkSpec)

end Rows
end Go.Proofs.Ytcogimnpffnanaa

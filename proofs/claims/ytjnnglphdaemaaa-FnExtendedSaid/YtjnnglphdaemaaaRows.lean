/-
  No cell of these rows narrows 'for every input' (looked for: loops, veiled, ifaces, maps, wideKeys, modest, calm, conditions, laid).
  DERIVED. THE GIVEN ROWS OF THIS SEAT. 7 by the template 'for every input the law returns true; each argument reads behind the call as it read before'; 0 by the template 'total and deterministic' (their statements: YtjnnglphdaemaaaTotals.lean).
  GIVEN WITH THE SEED: the statements are not yours to turn. If you find one false, say at which input.
  Laid BY PROGRAM, IN A SANDBOX (cutbox-rows.mjs): the forced cells as the released guide's own fill.sh prints them over the translation 92604330636c20c2… (all of the seat's roots in one cut). By AI agents, Wed Nov 11 2026. No macro, syntax, notation, axiom, sorry.
-/
import Derived.Test.YtjnnglphdaemaaaChecked
import GoSem.Claim
import GoSem.ClaimJoined
import GoSem.ClaimMapViews
import Derived.JoinedTies
import Derived.KernelRfl
namespace Go.Proofs.Ytjnnglphdaemaaa
/- THE CELL 'sum', in the pinned program and in every row, IS THE sha256 OF THE DUMP (.gsa) THAT YtjnnglphdaemaaaProg.lean LOADS. Nothing in Lean hashes anything: it is a label: what it is worth is what the hold of that sum in a sandbox is worth. -/
noncomputable def Try.pinned : Pinned := { name := "ytjnnglphdaemaaa", sum := "92604330636c20c2b17cd9d9167eafb8d24843b8c0c4cd414df2e40bf9f6c485", checked := Try.checked }
namespace Rows
def none {H : Type} : Left H := { results := [], args := [] }

/-- 'laws.FnNew': WHATEVER THE INPUT: true; the input reads as it did. -/
def fnNewSpec : ChangeSpec := { name := "fnNew", fn := fun _ => fun
  | [d] => { results := [.lit (.bool true)], args := [d] }
  | _ => none }
def fnNewRow : OpenClaim := { program := "ytjnnglphdaemaaa", sum := "92604330636c20c2b17cd9d9167eafb8d24843b8c0c4cd414df2e40bf9f6c485", func := "loop.example/g00233/laws.FnNew", spec := "fnNew", unfollowed := true, recurses := true, apart := false }
def FnNewSaid : Prop := fnNewRow.holds Try.pinned (OpenSpec.ofChange fnNewSpec)

/-- ITS FALSE NEIGHBOUR: 'it returns false'. Refute it at one input. -/
def fnNewWrong : ChangeSpec := { name := "fnNew", fn := fun _ => fun
  | [d] => { results := [.lit (.bool false)], args := [d] }
  | _ => none }
def FnNewWrongFalsely : Prop := fnNewRow.holds Try.pinned (OpenSpec.ofChange fnNewWrong)

/-- 'laws.FnExtended': WHATEVER THE INPUT: true; the input reads as it did. -/
def fnExtendedSpec : ChangeSpec := { name := "fnExtended", fn := fun _ => fun
  | [d] => { results := [.lit (.bool true)], args := [d] }
  | _ => none }
def fnExtendedRow : OpenClaim := { program := "ytjnnglphdaemaaa", sum := "92604330636c20c2b17cd9d9167eafb8d24843b8c0c4cd414df2e40bf9f6c485", func := "loop.example/g00233/laws.FnExtended", spec := "fnExtended", unfollowed := true, recurses := true, apart := false }
def FnExtendedSaid : Prop := fnExtendedRow.holds Try.pinned (OpenSpec.ofChange fnExtendedSpec)

/-- ITS FALSE NEIGHBOUR: 'it returns false'. Refute it at one input. -/
def fnExtendedWrong : ChangeSpec := { name := "fnExtended", fn := fun _ => fun
  | [d] => { results := [.lit (.bool false)], args := [d] }
  | _ => none }
def FnExtendedWrongFalsely : Prop := fnExtendedRow.holds Try.pinned (OpenSpec.ofChange fnExtendedWrong)

/-- 'laws.FnExactExtend': WHATEVER THE INPUT: true; the input reads as it did. -/
def fnExactExtendSpec : ChangeSpec := { name := "fnExactExtend", fn := fun _ => fun
  | [d1, d2, d3, d4] => { results := [.lit (.bool true)], args := [d1, d2, d3, d4] }
  | _ => none }
def fnExactExtendRow : OpenClaim := { program := "ytjnnglphdaemaaa", sum := "92604330636c20c2b17cd9d9167eafb8d24843b8c0c4cd414df2e40bf9f6c485", func := "loop.example/g00233/laws.FnExactExtend", spec := "fnExactExtend", unfollowed := true, recurses := true, apart := false }
def FnExactExtendSaid : Prop := fnExactExtendRow.holds Try.pinned (OpenSpec.ofChange fnExactExtendSpec)

/-- ITS FALSE NEIGHBOUR: 'it returns false'. Refute it at one input. -/
def fnExactExtendWrong : ChangeSpec := { name := "fnExactExtend", fn := fun _ => fun
  | [d1, d2, d3, d4] => { results := [.lit (.bool false)], args := [d1, d2, d3, d4] }
  | _ => none }
def FnExactExtendWrongFalsely : Prop := fnExactExtendRow.holds Try.pinned (OpenSpec.ofChange fnExactExtendWrong)

/-- 'laws.FnRecovered': WHATEVER THE INPUT: true; the input reads as it did. -/
def fnRecoveredSpec : ChangeSpec := { name := "fnRecovered", fn := fun _ => fun
  | [d] => { results := [.lit (.bool true)], args := [d] }
  | _ => none }
def fnRecoveredRow : OpenClaim := { program := "ytjnnglphdaemaaa", sum := "92604330636c20c2b17cd9d9167eafb8d24843b8c0c4cd414df2e40bf9f6c485", func := "loop.example/g00233/laws.FnRecovered", spec := "fnRecovered", unfollowed := true, recurses := true, apart := false }
def FnRecoveredSaid : Prop := fnRecoveredRow.holds Try.pinned (OpenSpec.ofChange fnRecoveredSpec)

/-- ITS FALSE NEIGHBOUR: 'it returns false'. Refute it at one input. -/
def fnRecoveredWrong : ChangeSpec := { name := "fnRecovered", fn := fun _ => fun
  | [d] => { results := [.lit (.bool false)], args := [d] }
  | _ => none }
def FnRecoveredWrongFalsely : Prop := fnRecoveredRow.holds Try.pinned (OpenSpec.ofChange fnRecoveredWrong)

/-- 'laws.FnExactMakeSure': WHATEVER THE INPUT: true; the input reads as it did. -/
def fnExactMakeSureSpec : ChangeSpec := { name := "fnExactMakeSure", fn := fun _ => fun
  | [d] => { results := [.lit (.bool true)], args := [d] }
  | _ => none }
def fnExactMakeSureRow : OpenClaim := { program := "ytjnnglphdaemaaa", sum := "92604330636c20c2b17cd9d9167eafb8d24843b8c0c4cd414df2e40bf9f6c485", func := "loop.example/g00233/laws.FnExactMakeSure", spec := "fnExactMakeSure", unfollowed := true, recurses := true, apart := false }
def FnExactMakeSureSaid : Prop := fnExactMakeSureRow.holds Try.pinned (OpenSpec.ofChange fnExactMakeSureSpec)

/-- ITS FALSE NEIGHBOUR: 'it returns false'. Refute it at one input. -/
def fnExactMakeSureWrong : ChangeSpec := { name := "fnExactMakeSure", fn := fun _ => fun
  | [d] => { results := [.lit (.bool false)], args := [d] }
  | _ => none }
def FnExactMakeSureWrongFalsely : Prop := fnExactMakeSureRow.holds Try.pinned (OpenSpec.ofChange fnExactMakeSureWrong)

/-- 'laws.FnExactMirrorOk': WHATEVER THE INPUT: true; the input reads as it did. -/
def fnExactMirrorOkSpec : ChangeSpec := { name := "fnExactMirrorOk", fn := fun _ => fun
  | [d1, d2] => { results := [.lit (.bool true)], args := [d1, d2] }
  | _ => none }
def fnExactMirrorOkRow : OpenClaim := { program := "ytjnnglphdaemaaa", sum := "92604330636c20c2b17cd9d9167eafb8d24843b8c0c4cd414df2e40bf9f6c485", func := "loop.example/g00233/laws.FnExactMirrorOk", spec := "fnExactMirrorOk", unfollowed := true, recurses := true, apart := false }
def FnExactMirrorOkSaid : Prop := fnExactMirrorOkRow.holds Try.pinned (OpenSpec.ofChange fnExactMirrorOkSpec)

/-- ITS FALSE NEIGHBOUR: 'it returns false'. Refute it at one input. -/
def fnExactMirrorOkWrong : ChangeSpec := { name := "fnExactMirrorOk", fn := fun _ => fun
  | [d1, d2] => { results := [.lit (.bool false)], args := [d1, d2] }
  | _ => none }
def FnExactMirrorOkWrongFalsely : Prop := fnExactMirrorOkRow.holds Try.pinned (OpenSpec.ofChange fnExactMirrorOkWrong)

/-- 'laws.FnExactOpenStore': WHATEVER THE INPUT: true; the input reads as it did. -/
def fnExactOpenStoreSpec : ChangeSpec := { name := "fnExactOpenStore", fn := fun _ => fun
  | [d1, d2] => { results := [.lit (.bool true)], args := [d1, d2] }
  | _ => none }
def fnExactOpenStoreRow : OpenClaim := { program := "ytjnnglphdaemaaa", sum := "92604330636c20c2b17cd9d9167eafb8d24843b8c0c4cd414df2e40bf9f6c485", func := "loop.example/g00233/laws.FnExactOpenStore", spec := "fnExactOpenStore", unfollowed := true, recurses := true, apart := false }
def FnExactOpenStoreSaid : Prop := fnExactOpenStoreRow.holds Try.pinned (OpenSpec.ofChange fnExactOpenStoreSpec)

/-- ITS FALSE NEIGHBOUR: 'it returns false'. Refute it at one input. -/
def fnExactOpenStoreWrong : ChangeSpec := { name := "fnExactOpenStore", fn := fun _ => fun
  | [d1, d2] => { results := [.lit (.bool false)], args := [d1, d2] }
  | _ => none }
def FnExactOpenStoreWrongFalsely : Prop := fnExactOpenStoreRow.holds Try.pinned (OpenSpec.ofChange fnExactOpenStoreWrong)

/- THE SECOND FORM. 'bulk': how many values and letters a reading holds, each counted each time it is reached (what is shared counts as often as it is met; a slice's spare places count too). A statement '..UptoSaid' is the law's where the arguments, and the package variables that the reading takes, are together of bulk at most 1048576: NARROWER than '..Said'. Prove '..Said' where nothing that the law and all that it calls make is longer than what came in: it says more and counts as full. Else prove '..UptoSaid'. A law counts once. -/
mutual
def uptoBulk {H : Type} : DataW H → Nat
  | .lit (.string bytes) => bytes.length + 1
  | .lit _ => 1
  | .nil => 1
  | .ptr d => uptoBulk d + 1
  | .slice elems spare => uptoBulkAll elems + uptoBulkAll spare + 1
  | .agg parts => uptoBulkAll parts + 1
  | .iface _ d => uptoBulk d + 1
  | .map entries => uptoBulkEntries entries + 1
  | .held _ => 1
def uptoBulkAll {H : Type} : List (DataW H) → Nat
  | [] => 0
  | d :: r => uptoBulk d + uptoBulkAll r
def uptoBulkEntries {H : Type} : List (Lit × DataW H) → Nat
  | [] => 0
  | x :: r => uptoBulkEntry x + uptoBulkEntries r
def uptoBulkEntry {H : Type} : Lit × DataW H → Nat
  | (.string bytes, d) => bytes.length + uptoBulk d + 1
  | (_, d) => uptoBulk d + 1
 end
def uptoSmall : (H : Type) → List (DataW H) → Bool := fun _ ds => decide (uptoBulkAll ds ≤ 1048576)
def OpenSpec.upto (s : _root_.Go.ChangeSpec) : _root_.Go.OpenSpec := { _root_.Go.OpenSpec.ofChange s with cond := some uptoSmall }

/-- 'laws.FnNew', WHERE WHAT IT READS IS OF BULK AT MOST 1048576: true; the input reads as it did. -/
def fnNewUptoRow : OpenClaim := { program := "ytjnnglphdaemaaa", sum := "92604330636c20c2b17cd9d9167eafb8d24843b8c0c4cd414df2e40bf9f6c485", func := "loop.example/g00233/laws.FnNew", spec := "fnNew", unfollowed := true, recurses := true, apart := false, narrowed := true }
def FnNewUptoSaid : Prop := fnNewUptoRow.holds Try.pinned (OpenSpec.upto fnNewSpec)

/-- 'laws.FnExtended', WHERE WHAT IT READS IS OF BULK AT MOST 1048576: true; the input reads as it did. -/
def fnExtendedUptoRow : OpenClaim := { program := "ytjnnglphdaemaaa", sum := "92604330636c20c2b17cd9d9167eafb8d24843b8c0c4cd414df2e40bf9f6c485", func := "loop.example/g00233/laws.FnExtended", spec := "fnExtended", unfollowed := true, recurses := true, apart := false, narrowed := true }
def FnExtendedUptoSaid : Prop := fnExtendedUptoRow.holds Try.pinned (OpenSpec.upto fnExtendedSpec)

/-- 'laws.FnExactExtend', WHERE WHAT IT READS IS OF BULK AT MOST 1048576: true; the input reads as it did. -/
def fnExactExtendUptoRow : OpenClaim := { program := "ytjnnglphdaemaaa", sum := "92604330636c20c2b17cd9d9167eafb8d24843b8c0c4cd414df2e40bf9f6c485", func := "loop.example/g00233/laws.FnExactExtend", spec := "fnExactExtend", unfollowed := true, recurses := true, apart := false, narrowed := true }
def FnExactExtendUptoSaid : Prop := fnExactExtendUptoRow.holds Try.pinned (OpenSpec.upto fnExactExtendSpec)

/-- 'laws.FnRecovered', WHERE WHAT IT READS IS OF BULK AT MOST 1048576: true; the input reads as it did. -/
def fnRecoveredUptoRow : OpenClaim := { program := "ytjnnglphdaemaaa", sum := "92604330636c20c2b17cd9d9167eafb8d24843b8c0c4cd414df2e40bf9f6c485", func := "loop.example/g00233/laws.FnRecovered", spec := "fnRecovered", unfollowed := true, recurses := true, apart := false, narrowed := true }
def FnRecoveredUptoSaid : Prop := fnRecoveredUptoRow.holds Try.pinned (OpenSpec.upto fnRecoveredSpec)

/-- 'laws.FnExactMakeSure', WHERE WHAT IT READS IS OF BULK AT MOST 1048576: true; the input reads as it did. -/
def fnExactMakeSureUptoRow : OpenClaim := { program := "ytjnnglphdaemaaa", sum := "92604330636c20c2b17cd9d9167eafb8d24843b8c0c4cd414df2e40bf9f6c485", func := "loop.example/g00233/laws.FnExactMakeSure", spec := "fnExactMakeSure", unfollowed := true, recurses := true, apart := false, narrowed := true }
def FnExactMakeSureUptoSaid : Prop := fnExactMakeSureUptoRow.holds Try.pinned (OpenSpec.upto fnExactMakeSureSpec)

/-- 'laws.FnExactMirrorOk', WHERE WHAT IT READS IS OF BULK AT MOST 1048576: true; the input reads as it did. -/
def fnExactMirrorOkUptoRow : OpenClaim := { program := "ytjnnglphdaemaaa", sum := "92604330636c20c2b17cd9d9167eafb8d24843b8c0c4cd414df2e40bf9f6c485", func := "loop.example/g00233/laws.FnExactMirrorOk", spec := "fnExactMirrorOk", unfollowed := true, recurses := true, apart := false, narrowed := true }
def FnExactMirrorOkUptoSaid : Prop := fnExactMirrorOkUptoRow.holds Try.pinned (OpenSpec.upto fnExactMirrorOkSpec)

/-- 'laws.FnExactOpenStore', WHERE WHAT IT READS IS OF BULK AT MOST 1048576: true; the input reads as it did. -/
def fnExactOpenStoreUptoRow : OpenClaim := { program := "ytjnnglphdaemaaa", sum := "92604330636c20c2b17cd9d9167eafb8d24843b8c0c4cd414df2e40bf9f6c485", func := "loop.example/g00233/laws.FnExactOpenStore", spec := "fnExactOpenStore", unfollowed := true, recurses := true, apart := false, narrowed := true }
def FnExactOpenStoreUptoSaid : Prop := fnExactOpenStoreUptoRow.holds Try.pinned (OpenSpec.upto fnExactOpenStoreSpec)

end Rows
end Go.Proofs.Ytjnnglphdaemaaa

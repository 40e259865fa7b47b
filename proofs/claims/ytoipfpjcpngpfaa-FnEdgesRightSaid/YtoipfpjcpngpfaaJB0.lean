-- Joined by a program of this session (wip/tools/rebase.py): texts of mine and of pp.sh.
import Derived.Test.YtoipfpjcpngpfaaProg
import Derived.Below
import Derived.Deep.Draws
import Derived.Deep.AppendLies
import Derived.Maps.AppendAt
import Derived.OwnWalk
import Derived.Laws.BytesArg
import Derived.Laws.MakeOwn
import Derived.Laws.OwnMore
import Derived.Deep.OwnRows
import Derived.Tactics
import Derived.Lib.ConvBytes
import Derived.Laws.Slices
import Derived.WalkKit
import Derived.KernelRfl
import Derived.RowKit3
import Derived.Deep.LoopGhost
import Derived.Deep.QuietTactic
import Derived.BigQuiet
import Derived.WideLaws
import Derived.Deep.DeepCutAuto
import Derived.Deep.CutBlock
import Derived.Deep.RegionHeld3
import Derived.Laws.Rows
import Derived.Lib.AppendStr
import Derived.ArgAppend
import Derived.Laws.IdiomCopy
import Derived.OrdersHeld
import Derived.Laws.BitsLemmas
import Derived.RowKit
import Derived.Test.YtoipfpjcpngpfaaWWords
import Derived.Test.YtoipfpjcpngpfaaWLast
import Derived.Test.YtoipfpjcpngpfaaWTab
import Derived.Test.YtoipfpjcpngpfaaWFour
import Derived.Test.YtoipfpjcpngpfaaWQPut
import Derived.Test.YtoipfpjcpngpfaaWApart
import Derived.Test.YtoipfpjcpngpfaaWArr
import Derived.Test.YtoipfpjcpngpfaaWZeros
import Derived.Test.YtoipfpjcpngpfaaWFoot
import Derived.Test.YtoipfpjcpngpfaaWKept
import Derived.Test.YtoipfpjcpngpfaaWShare
import Derived.Test.YtoipfpjcpngpfaaWN
import Derived.Test.YtoipfpjcpngpfaaWFootNe
import Derived.Test.YtoipfpjcpngpfaaWAt
import Derived.Test.YtoipfpjcpngpfaaWEqStruct
import Derived.Test.YtoipfpjcpngpfaaWRepsOne
import Derived.Test.YtoipfpjcpngpfaaWInv
import Derived.Test.YtoipfpjcpngpfaaWInvWords
import Derived.Test.YtoipfpjcpngpfaaWGuard
import Derived.Test.YtoipfpjcpngpfaaWNEv
import Derived.Test.YtoipfpjcpngpfaaWMore
import Derived.RegionTactic
import Derived.IntWalk
import Derived.RangeFuncNested
import Derived.RangeFuncBound
import Derived.RangeFuncCalls
import Derived.RangeFuncLeaves
import Derived.Shelf.Abstract
import Derived.Shelf.RegionOpen
import Derived.OwnWalkIn
import Derived.TacticsInMore
import Derived.LoopNIn
import Derived.LoopIn
import Derived.WalkLawsBesides
import Derived.RegionIn
import Derived.Lib.Strings
import Derived.Lib.SliceRun
section
-- Written by a program of this session (wip/tools/pp.sh) over the print of the kit.
namespace Go.Proofs.Ytoipfpjcpngpfaa.Q
open Go.RowKit Go.Proofs.YtoipfpjcpngpfaaW.PrintWords Go.Proofs.YtoipfpjcpngpfaaW.PrintLast Go.Proofs.YtoipfpjcpngpfaaW.PrintMore
attribute [local go_sem] max2_int min2_int max_two min_two max_three min_three max_four min_four   -- for this text's walks alone
set_option linter.unusedVariables false
set_option linter.unusedSimpArgs false



def errW : Option Int → Value
  | none => .nilIface
  | some c => .iface 0 (.int .i64 c)
theorem errW_none : errW none = .nilIface := rfl
theorem errW_some (c : Int) : errW (some c) = .iface 0 (.int .i64 c) := rfl

theorem info3 : (Try.prog.info? 3).map (fun i => (i.zero, i.size, i.bytes)) = some (some (.int .i64 0), 1, 8) := by kernel_rfl
theorem info5 : (Try.prog.info? 5).map (fun i => (i.zero, i.size, i.bytes)) = some (some (.int .u8 0), 1, 1) := by kernel_rfl
theorem info9 : (Try.prog.info? 9).map (fun i => (i.zero, i.size, i.bytes)) = some (some (.string ⟨#[]⟩), 1, 16) := by kernel_rfl
/-! #### struct type 61 -/
structure S61 where
  f0 : Int
  f1 : (List ByteArray)
/-! #### struct type 30 -/
structure S30 where
  f0 : Int
  f1 : ByteArray
/-! #### struct type 23 -/
structure S23 where
  f0 : Int
  f1 : ByteArray
/-! #### struct type 59 -/
structure S59 where
  f0 : Int
  f1 : (List ByteArray)
def k59 : Kd S59 := Kd.iso (Kd.pair (Kd.int .i64) (Kd.slice 9 Kd.string)) (fun x : S59 => (x.f0, x.f1))
theorem k59_open {w : World} {x : S59} {cs : List Value} (h : k59.K w x cs) : ∃ A1 c1, cs = [.int .i64 x.f0, .slice A1 x.f1.length c1] ∧ x.f1.length ≤ c1 ∧ Kd.string.C w A1 x.f1.length x.f1 := by
  obtain ⟨_, _, rfl, rfl, ⟨A1, c1, rfl, l1, g1⟩⟩ := h
  exact ⟨A1, c1, rfl, l1, g1⟩
/-! #### struct type 98 -/
structure S98 where
  f0 : (List ByteArray)
  f1 : S23
end Go.Proofs.Ytoipfpjcpngpfaa.Q
end

section
-- Written by a program of this session (wip/tools/pp.sh) over the print of the kit.
namespace Go.Proofs.Ytoipfpjcpngpfaa.Q
open Go.RowKit Go.Proofs.YtoipfpjcpngpfaaW.PrintWords Go.Proofs.YtoipfpjcpngpfaaW.PrintLast Go.Proofs.YtoipfpjcpngpfaaW.PrintMore
attribute [local go_sem] max2_int min2_int max_two min_two max_three min_three max_four min_four   -- for this text's walks alone
set_option linter.unusedVariables false
set_option linter.unusedSimpArgs false

/-! ### bits_RotateLeft32: function 175 -/
def bits_RotateLeft32.f (a0 : Int) (a1 : Int) : Option (Int) := if 0 ≤ (Go.bits .and .u64 (IntKind.u64.wrap (a1)) 31) then (if 0 ≤ (IntKind.u64.wrap (32 - (Go.bits .and .u64 (IntKind.u64.wrap (a1)) 31))) then (some (Go.bits .or .u32 (shl .u32 a0 (Go.bits .and .u64 (IntKind.u64.wrap (a1)) 31)) (shr .u32 a0 (IntKind.u64.wrap (32 - (Go.bits .and .u64 (IntKind.u64.wrap (a1)) 31)))))) else (none)) else (none)
set_option maxHeartbeats 8000000 in
set_option maxRecDepth 100000 in
theorem bits_RotateLeft32.calls (a0 : Int) (a1 : Int) (r : Int) (w : World) (h : bits_RotateLeft32.f a0 a1 = some r) :
    Calls Try.prog 175 #[.int .u32 a0, .int .i64 a1] w fun e w' => e = .returned (.int .u32 r) ∧ Drawn0 w w' := by
  have H : (if 0 ≤ (Go.bits .and .u64 (IntKind.u64.wrap (a1)) 31) then (if 0 ≤ (IntKind.u64.wrap (32 - (Go.bits .and .u64 (IntKind.u64.wrap (a1)) 31))) then (some (Go.bits .or .u32 (shl .u32 a0 (Go.bits .and .u64 (IntKind.u64.wrap (a1)) 31)) (shr .u32 a0 (IntKind.u64.wrap (32 - (Go.bits .and .u64 (IntKind.u64.wrap (a1)) 31)))))) else (none)) else (none)) = some r := h
  clear h
  obtain ⟨ji3, hji3⟩ : ∃ j_ : Int, (Go.bits .and .u64 (IntKind.u64.wrap (a1)) 31) = j_ := ⟨_, rfl⟩
  replace H : (if 0 ≤ (ji3) then (if 0 ≤ (IntKind.u64.wrap (32 - (ji3))) then (some (Go.bits .or .u32 (shl .u32 a0 (ji3)) (shr .u32 a0 (IntKind.u64.wrap (32 - (ji3)))))) else (none)) else (none)) = some r := by first | (rw [hji3] at H; exact H) | (simp only [hji3] at H ⊢; exact H)
  by_cases c4 : 0 ≤ (ji3)
  · rw [if_pos c4] at H
    have c4b0 := eq_true c4
    have c4b1 : decide (0 ≤ (ji3)) = true := decide_eq_true c4
    clear c4
    obtain ⟨ji5, hji5⟩ : ∃ j_ : Int, (shl .u32 a0 (ji3)) = j_ := ⟨_, rfl⟩
    replace H : (if 0 ≤ (IntKind.u64.wrap (32 - (ji3))) then (some (Go.bits .or .u32 (ji5) (shr .u32 a0 (IntKind.u64.wrap (32 - (ji3)))))) else (none)) = some r := by first | (rw [hji5] at H; exact H) | (simp only [hji5] at H ⊢; exact H)
    have hji5_ : (IntKind.u32.wrap (a0 * 2 ^ min (ji3).toNat 32)) = ji5 := hji5
    have hji5z : (ji3) ≤ 32 → (IntKind.u32.wrap (a0 * 2 ^ (ji3).toNat)) = ji5 := shl_small hji5
    obtain ⟨ji6, hji6⟩ : ∃ j_ : Int, (IntKind.u64.wrap (32 - (ji3))) = j_ := ⟨_, rfl⟩
    replace H : (if 0 ≤ (ji6) then (some (Go.bits .or .u32 (ji5) (shr .u32 a0 (ji6)))) else (none)) = some r := by first | (rw [hji6] at H; exact H) | (simp only [hji6] at H ⊢; exact H)
    by_cases c7 : 0 ≤ (ji6)
    · rw [if_pos c7] at H
      have c7b0 := eq_true c7
      have c7b1 : decide (0 ≤ (ji6)) = true := decide_eq_true c7
      clear c7
      obtain ⟨ji8, hji8⟩ : ∃ j_ : Int, (shr .u32 a0 (ji6)) = j_ := ⟨_, rfl⟩
      replace H : (some (Go.bits .or .u32 (ji5) (ji8))) = some r := by first | (rw [hji8] at H; exact H) | (simp only [hji8] at H ⊢; exact H)
      have hji8_ : (a0 / 2 ^ min (ji6).toNat 32) = ji8 := hji8
      have hji8z : (ji6) ≤ 32 → (a0 / 2 ^ (ji6).toNat) = ji8 := shr_small hji8
      obtain rfl := Option.some.inj H
      go_enter Try.func175, Try.ntmps175
      go_wp2
      go_ret
      exact ⟨by first | rfl | (simp; done) | (simp only [← hji3, ← hji5, ← hji6, ← hji8] <;> (first | rfl | simp)) | (simp [*]; done), by repeat (first | exact Drawn0.refl _ | apply Drawn0.step)⟩
    · rw [if_neg c7] at H
      exact absurd H (by simp)
  · rw [if_neg c4] at H
    exact absurd H (by simp)

end Go.Proofs.Ytoipfpjcpngpfaa.Q
end

section
/- bits.RotateLeft32 at the ten counts that the digest uses: a turn to the right. -/
namespace Go.Proofs.Ytoipfpjcpngpfaa.Q
open Go.RowKit Go.Proofs.YtoipfpjcpngpfaaW.PrintWords Go.Proofs.YtoipfpjcpngpfaaW.PrintLast Go.Proofs.YtoipfpjcpngpfaaW.PrintMore

def rotr (x : Int) (n : Nat) : Int := Go.bits .or .u32 (shl .u32 x (32 - n)) (shr .u32 x n)
theorem rot_of (x k : Int) (n : Nat) (h1 : Go.bits .and .u64 (IntKind.u64.wrap k) 31 = 32 - (n : Int)) (h2 : IntKind.u64.wrap (32 - (32 - (n : Int))) = (n : Int)) (hn : n ≤ 32) : bits_RotateLeft32.f x k = some (rotr x n) := by
  unfold bits_RotateLeft32.f rotr
  rw [h1, h2, if_pos (by omega), if_pos (by omega)]
theorem rot2 (x : Int) : bits_RotateLeft32.f x (-2) = some (rotr x 2) := rot_of x _ 2 (by decide +kernel) (by decide +kernel) (by decide)
theorem rot6 (x : Int) : bits_RotateLeft32.f x (-6) = some (rotr x 6) := rot_of x _ 6 (by decide +kernel) (by decide +kernel) (by decide)
theorem rot7 (x : Int) : bits_RotateLeft32.f x (-7) = some (rotr x 7) := rot_of x _ 7 (by decide +kernel) (by decide +kernel) (by decide)
theorem rot11 (x : Int) : bits_RotateLeft32.f x (-11) = some (rotr x 11) := rot_of x _ 11 (by decide +kernel) (by decide +kernel) (by decide)
theorem rot13 (x : Int) : bits_RotateLeft32.f x (-13) = some (rotr x 13) := rot_of x _ 13 (by decide +kernel) (by decide +kernel) (by decide)
theorem rot17 (x : Int) : bits_RotateLeft32.f x (-17) = some (rotr x 17) := rot_of x _ 17 (by decide +kernel) (by decide +kernel) (by decide)
theorem rot18 (x : Int) : bits_RotateLeft32.f x (-18) = some (rotr x 18) := rot_of x _ 18 (by decide +kernel) (by decide +kernel) (by decide)
theorem rot19 (x : Int) : bits_RotateLeft32.f x (-19) = some (rotr x 19) := rot_of x _ 19 (by decide +kernel) (by decide +kernel) (by decide)
theorem rot22 (x : Int) : bits_RotateLeft32.f x (-22) = some (rotr x 22) := rot_of x _ 22 (by decide +kernel) (by decide +kernel) (by decide)
theorem rot25 (x : Int) : bits_RotateLeft32.f x (-25) = some (rotr x 25) := rot_of x _ 25 (by decide +kernel) (by decide +kernel) (by decide)
end Go.Proofs.Ytoipfpjcpngpfaa.Q
end

section
/- impl.wordsOf: the 64 words of a block of 64 bytes, in a new array. -/
namespace Go.Proofs.Ytoipfpjcpngpfaa.Q
open Go.RowKit Go.Proofs.YtoipfpjcpngpfaaW.PrintWords Go.Proofs.YtoipfpjcpngpfaaW.PrintLast Go.Proofs.YtoipfpjcpngpfaaW.PrintMore
set_option linter.unusedVariables false
set_option linter.unusedSimpArgs false

def be32 (bs : List Int) (i : Nat) : Int := Go.bits .or .u32 (Go.bits .or .u32 (Go.bits .or .u32 (rd bs (4 * (i : Int)) % 4294967296 * 16777216 % 4294967296) (rd bs (4 * (i : Int) + 1) % 4294967296 * 65536 % 4294967296)) (rd bs (4 * (i : Int) + 2) % 4294967296 * 256 % 4294967296)) (rd bs (4 * (i : Int) + 3) % 4294967296)
def wMix (a16 a15 a7 a2 : Int) : Int := (a16 + Go.bits .xor .u32 (Go.bits .xor .u32 (rotr a15 7) (rotr a15 18)) (a15 / 8) + a7 + Go.bits .xor .u32 (Go.bits .xor .u32 (rotr a2 17) (rotr a2 19)) (a2 / 1024)) % 4294967296
def wAt (bs : List Int) : Nat → List Int
  | 0 => List.replicate 64 0
  | i + 1 => (wAt bs i).set i (if i < 16 then be32 bs i else wMix ((wAt bs i).getD (i - 16) 0) ((wAt bs i).getD (i - 15) 0) ((wAt bs i).getD (i - 7) 0) ((wAt bs i).getD (i - 2) 0))
theorem wAt_length (bs : List Int) (i : Nat) : (wAt bs i).length = 64 := by
  induction i with
  | zero => simp [wAt]
  | succ i ih => simp [wAt, ih]
def arrU (ys : List Int) : Array Value := (nums .u32 ys).toArray
theorem arrU_get {ys : List Int} {i : Nat} (h : i < ys.length) : (arrU ys)[i]? = some (.int .u32 (ys.getD i 0)) := by
  simp [arrU, nums, List.getElem?_eq_getElem h, List.getD_eq_getElem?_getD]
theorem arrU_set (ys : List Int) (i : Nat) (v : Int) : (arrU ys).setIfInBounds i (.int .u32 v) = arrU (ys.set i v) := by
  simp [arrU, nums, List.map_set]
theorem bytes_at {w : World} {A : Option Addr} {n : Nat} {bs : List Int} (h : Kd.C (Kd.int .u8) w A n bs) (h0 : 0 < n) : ∃ ad, A = some ad ∧ ad.block < w.heap.size ∧ ∀ i : Nat, i < n → w.cell? (ad.add i) = some (.int .u8 (rd bs i)) := by
  obtain ⟨ad, e, hcell⟩ := h.2.2 h0
  have hl := h.1
  have hby : ∀ i : Nat, i < n → w.cell? (ad.add i) = some (.int .u8 (rd bs i)) := by
    intro i hi
    obtain ⟨x, hx⟩ : ∃ x, bs[i]? = some x := ⟨bs[i], List.getElem?_eq_getElem (by omega)⟩
    obtain ⟨cs, _, hk, hcc⟩ := hcell i x hx
    have hk2 : cs = [.int .u8 x] := hk
    have := hcc 0 (.int .u8 x) (by rw [hk2]; rfl)
    rw [show i * (Kd.int .u8).sz + 0 = i from by simp [Kd.int, Kd.scalar]] at this
    rw [this]
    unfold rd
    simp [List.getD_eq_getElem?_getD, hx]
  have had := World.block_lt_of_cell? w _ (hby 0 h0)
  exact ⟨ad, e, by simpa [Addr.add] using had, hby⟩

set_option maxHeartbeats 4000000 in
set_option maxRecDepth 100000 in
theorem wordsOf_calls (A : Option Addr) (c : Nat) (bs : List Int) (w : World) (hr : Kd.C (Kd.int .u8) w A bs.length bs) (hl : bs.length = 64) :
    Calls Try.prog 174 #[.slice A bs.length c] w fun e w' => ∃ g, e = .returned (.pointer (some ⟨g, 0, none⟩)) ∧ w.heap.size ≤ g ∧ w'.heap[g]? = some (.cells (arrU (wAt bs 64)) 183 (0, 0)) ∧ Below w.heap.size w w' := by
  have HL := Aside0.mk hl
  obtain ⟨ad, rfl, hadl, hby⟩ := bytes_at hr (by omega)
  have HAD := Aside0.mk hadl
  have HBY := Aside0.mk hby
  clear hr hl hby hadl
  go_enter Try.func174, Try.ntmps174
  go_wp2
  go_loopw [10] (fun i W => ∃ k : Nat, k ≤ 16 ∧ i = .int .i64 k ∧ Aside0 (W.heap[w.heap.size]? = some (.cells (arrU (wAt bs k)) 183 (0, 0))) ∧ Aside0 (Below w.heap.size w W)) (fun i _ => 16 - (intOf i).toNat)
  case atStart =>
    refine ⟨0, by omega, rfl, ⟨?_⟩, ⟨(Below.refl _ _).alloc (Nat.le_refl _) _⟩⟩
    rw [blk_new]
    rfl
  case round =>
    obtain ⟨k, hk, rfl, HG, HB⟩ := hrel
    by_cases hlt : k < 16
    · have hb11 : decide ((k : Int) < 16) = true := decide_eq_true (by omega)
      have hblk : ∀ i : Nat, (ad.add i).block = ad.block := fun i => by unfold Addr.add; split <;> rfl
      have hL := HL.out
      have ee : ∀ i : Nat, i < 64 → wr.cell? (ad.add i) = some (.int .u8 (rd bs i)) := fun i hi => (HB.out.cell (by rw [hblk]; exact HAD.out)).trans (HBY.out i (by omega))
      have e0 := ee (4 * k) (by omega)
      have hpl : ∀ i : Nat, ad.add (i + 1) = ⟨ad.block, ad.off + (i + 1), none⟩ := fun i => by unfold Addr.add; rw [if_neg (by omega)]
      have e1' : wr.cell? ⟨ad.block, ad.off + (4 * k + 1), none⟩ = some (.int .u8 (rd bs (4 * (k : Int) + 1))) := by rw [← hpl]; exact ee (4 * k + 1) (by omega)
      have e2' : wr.cell? ⟨ad.block, ad.off + (4 * k + 1 + 1), none⟩ = some (.int .u8 (rd bs (4 * (k : Int) + 2))) := by rw [← hpl]; exact ee (4 * k + 2) (by omega)
      have e3' : wr.cell? ⟨ad.block, ad.off + (4 * k + 2 + 1), none⟩ = some (.int .u8 (rd bs (4 * (k : Int) + 3))) := by rw [← hpl]; exact ee (4 * k + 3) (by omega)
      have e2'' : wr.cell? ⟨ad.block, ad.off + (4 * k + 2), none⟩ = some (.int .u8 (rd bs (4 * (k : Int) + 2))) := e2'
      have e3'' : wr.cell? ⟨ad.block, ad.off + (4 * k + 3), none⟩ = some (.int .u8 (rd bs (4 * (k : Int) + 3))) := e3'
      clear ee hblk hpl
      have hcl : wr.cell? ⟨w.heap.size, k, none⟩ = some (.int .u32 ((wAt bs k).getD k 0)) := (blk_cell HG.out k).trans (arrU_get (by rw [wAt_length]; omega))
      obtain ⟨old, hold⟩ : ∃ old, old = (wAt bs k).getD k 0 := ⟨_, rfl⟩
      rw [← hold] at hcl
      clear hold
      have hfl := blk_frozen HG.out k
      have s0 : IntKind.i64.wrap (4 * (k : Int)) = 4 * (k : Int) := IntWalk.i64_in _ ⟨by omega, by omega⟩
      have s1 : IntKind.i64.wrap (4 * (k : Int) + 1) = 4 * (k : Int) + 1 := IntWalk.i64_in _ ⟨by omega, by omega⟩
      have s2 : IntKind.i64.wrap (4 * (k : Int) + 2) = 4 * (k : Int) + 2 := IntWalk.i64_in _ ⟨by omega, by omega⟩
      have s3 : IntKind.i64.wrap (4 * (k : Int) + 3) = 4 * (k : Int) + 3 := IntWalk.i64_in _ ⟨by omega, by omega⟩
      have p0 : 0 ≤ 4 * (k : Int) := by omega
      have p1 : 0 ≤ 4 * (k : Int) + 1 := by omega
      have p2 : 0 ≤ 4 * (k : Int) + 2 := by omega
      have p3 : 0 ≤ 4 * (k : Int) + 3 := by omega
      have l0 : 4 * (k : Int) < (bs.length : Int) := by omega
      have l1 : 4 * (k : Int) + 1 < (bs.length : Int) := by omega
      have l2 : 4 * (k : Int) + 2 < (bs.length : Int) := by omega
      have l3 : 4 * (k : Int) + 3 < (bs.length : Int) := by omega
      have l4 : (k : Int) < 64 := by omega
      have t0 : (4 * (k : Int)).toNat = 4 * k := by omega
      have t1 : (4 * (k : Int) + 1).toNat = 4 * k + 1 := by omega
      have t2 : (4 * (k : Int) + 2).toNat = 4 * k + 2 := by omega
      have t3 : (4 * (k : Int) + 3).toNat = 4 * k + 3 := by omega
      clear hL
      go_wp2
      go_region
      go_wp2
      go_roundw
      case rel =>
        refine ⟨k + 1, by omega, by go_num, ⟨?_⟩, ⟨HB.out.drew.setCell (Nat.le_refl _) _⟩⟩
        have hs := blk_set (blk_drew HG.out) k (.int .u32 (be32 bs k))
        rw [arrU_set] at hs
        rw [show wAt bs (k + 1) = (wAt bs k).set k (be32 bs k) from by simp [wAt, hlt]]
        exact hs
      case measure => simp [intOf]; omega
    · obtain rfl : k = 16 := by omega
      have hb11 : decide (((16 : Nat) : Int) < 16) = false := by decide
      obtain ⟨wo, rfl⟩ : ∃ wo : World, wo = wr := ⟨_, rfl⟩
      go_wp2
      go_loopw [5] (fun i W => ∃ k : Nat, 16 ≤ k ∧ k ≤ 64 ∧ i = .int .i64 k ∧ Aside0 (W.heap[w.heap.size]? = some (.cells (arrU (wAt bs k)) 183 (0, 0))) ∧ Aside0 (Below w.heap.size w W)) (fun i _ => 64 - (intOf i).toNat)
      case atStart => exact ⟨16, by omega, by omega, rfl, HG, HB⟩
      case round =>
        clear hk hlt hb11 HG HB
        obtain ⟨k, hk1, hk2, rfl, HG, HB⟩ := hrel
        by_cases hlt : k < 64
        · have hb50 : decide ((k : Int) < 64) = true := decide_eq_true (by omega)
          have cc : ∀ j : Nat, j < 64 → wr.cell? ⟨w.heap.size, j, none⟩ = some (.int .u32 ((wAt bs k).getD j 0)) := fun j hj => (blk_cell HG.out j).trans (arrU_get (by rw [wAt_length]; exact hj))
          obtain ⟨a16, g16⟩ : ∃ a, (wAt bs k).getD (k - 16) 0 = a := ⟨_, rfl⟩
          obtain ⟨a15, g15⟩ : ∃ a, (wAt bs k).getD (k - 15) 0 = a := ⟨_, rfl⟩
          obtain ⟨a7, g7⟩ : ∃ a, (wAt bs k).getD (k - 7) 0 = a := ⟨_, rfl⟩
          obtain ⟨a2, g2⟩ : ∃ a, (wAt bs k).getD (k - 2) 0 = a := ⟨_, rfl⟩
          obtain ⟨a0, g0⟩ : ∃ a, (wAt bs k).getD k 0 = a := ⟨_, rfl⟩
          have c16 := cc (k - 16) (by omega)
          have c15 := cc (k - 15) (by omega)
          have c7 := cc (k - 7) (by omega)
          have c2 := cc (k - 2) (by omega)
          have c0 := cc k hlt
          rw [g16] at c16
          rw [g15] at c15
          rw [g7] at c7
          rw [g2] at c2
          rw [g0] at c0
          have G := Aside0.mk (show wAt bs (k + 1) = (wAt bs k).set k (wMix a16 a15 a7 a2) from by simp only [wAt]; rw [if_neg (by omega), g16, g15, g7, g2])
          clear cc g16 g15 g7 g2 g0
          have hf0 := blk_frozen HG.out k
          have s16 : IntKind.i64.wrap ((k : Int) - 16) = (k : Int) - 16 := IntWalk.i64_in _ ⟨by omega, by omega⟩
          have s15 : IntKind.i64.wrap ((k : Int) - 15) = (k : Int) - 15 := IntWalk.i64_in _ ⟨by omega, by omega⟩
          have s7 : IntKind.i64.wrap ((k : Int) - 7) = (k : Int) - 7 := IntWalk.i64_in _ ⟨by omega, by omega⟩
          have s2 : IntKind.i64.wrap ((k : Int) - 2) = (k : Int) - 2 := IntWalk.i64_in _ ⟨by omega, by omega⟩
          have p16 : 0 ≤ (k : Int) - 16 := by omega
          have p15 : 0 ≤ (k : Int) - 15 := by omega
          have p7 : 0 ≤ (k : Int) - 7 := by omega
          have p2 : 0 ≤ (k : Int) - 2 := by omega
          have q16 : 16 ≤ (k : Int) := by omega
          have q15 : 15 ≤ (k : Int) := by omega
          have q7 : 7 ≤ (k : Int) := by omega
          have q2 : 2 ≤ (k : Int) := by omega
          have l16 : (k : Int) - 16 < 64 := by omega
          have l15 : (k : Int) - 15 < 64 := by omega
          have l7 : (k : Int) - 7 < 64 := by omega
          have l2 : (k : Int) - 2 < 64 := by omega
          have l0 : (k : Int) < 64 := by omega
          have t16 : ((k : Int) - 16).toNat = k - 16 := by omega
          have t15 : ((k : Int) - 15).toNat = k - 15 := by omega
          have t7 : ((k : Int) - 7).toNat = k - 7 := by omega
          have t2 : ((k : Int) - 2).toNat = k - 2 := by omega
          go_wp2
          go_region
          go_wp2_with (first | (go_at_call 175; (first | (with_reducible refine (bits_RotateLeft32.calls _ _ _ _ (rot7 _)).mono ?_) | (with_reducible refine (bits_RotateLeft32.calls _ _ _ _ (rot18 _)).mono ?_) | (with_reducible refine (bits_RotateLeft32.calls _ _ _ _ (rot17 _)).mono ?_) | (with_reducible refine (bits_RotateLeft32.calls _ _ _ _ (rot19 _)).mono ?_)); rintro e w' ⟨rfl, ⟨nd, rfl⟩⟩))
          go_region
          go_wp2
          go_roundw
          case rel =>
            (repeat apply Exists.intro)
            exact ⟨⟨k + 1, by omega, by omega, by go_num, ⟨by rw [G.out, ← arrU_set]; refine blk_set ?_ k _; exact HG.out⟩, ⟨by refine Below.setCell (p := ⟨w.heap.size, k, none⟩) ?_ (Nat.le_refl _) _; exact pw_below_drewN HB.out _⟩⟩, rfl⟩
          case measure => simp [intOf]; omega
        · obtain rfl : k = 64 := by omega
          have hb50 : decide (((64 : Nat) : Int) < 64) = false := by decide
          go_wp2
          go_ret
          exact ⟨_, rfl, Nat.le_refl _, HG.out, HB.out⟩
end Go.Proofs.Ytoipfpjcpngpfaa.Q
end

section
/- impl.turnBlock: the eight words of a digest, in their place, turned by a block of 64 bytes. -/
namespace Go.Proofs.Ytoipfpjcpngpfaa.Q
open Go.RowKit Go.Proofs.YtoipfpjcpngpfaaW.PrintWords Go.Proofs.YtoipfpjcpngpfaaW.PrintLast Go.Proofs.YtoipfpjcpngpfaaW.PrintMore
set_option linter.unusedVariables false
set_option linter.unusedSimpArgs false

def tS1 (e : Int) : Int := Go.bits .xor .u32 (Go.bits .xor .u32 (rotr e 6) (rotr e 11)) (rotr e 25)
def tS0 (a : Int) : Int := Go.bits .xor .u32 (Go.bits .xor .u32 (rotr a 2) (rotr a 13)) (rotr a 22)
def tT1 (e f g h kc wc : Int) : Int := h + tS1 e + Go.bits .xor .u32 (Go.bits .and .u32 e f) (Go.bits .and .u32 (Go.bits .xor .u32 IntKind.u32.max e) g) + kc + wc
def tMaj (a b c : Int) : Int := Go.bits .xor .u32 (Go.bits .xor .u32 (Go.bits .and .u32 a b) (Go.bits .and .u32 a c)) (Go.bits .and .u32 b c)
/-- One turn of the eight words, by a constant and a word. -/
def turnStep (kc wc : Int) : List Int → List Int
  | [a, b, c, d, e, f, g, h] => [(tT1 e f g h kc wc + tS0 a + tMaj a b c) % 4294967296, a, b, c, (d + tT1 e f g h kc wc) % 4294967296, e, f, g]
  | l => l
def vAt (ks ws hs : List Int) : Nat → List Int
  | 0 => hs
  | i + 1 => turnStep (ks.getD i 0) (ws.getD i 0) (vAt ks ws hs i)

theorem vAt_eight (ks ws hs : List Int) (h : hs.length = 8) (k : Nat) : (vAt ks ws hs k).length = 8 := by
  induction k with
  | zero => exact h
  | succ k ih =>
    simp only [vAt]
    match vAt ks ws hs k, ih with
    | [a, b, c, d, e, f, g, h], _ => rfl
theorem eight {l : List Int} (h : l.length = 8) : ∃ v0 v1 v2 v3 v4 v5 v6 v7, l = [v0, v1, v2, v3, v4, v5, v6, v7] := by
  match l, h with
  | [h0, h1, h2, h3, h4, h5, h6, h7], _ => exact ⟨h0, h1, h2, h3, h4, h5, h6, h7, rfl⟩
theorem eight_set {W : World} {gv : Nat} {T : TypeId} {v0 v1 v2 v3 v4 v5 v6 v7 : Int} (n0 n1 n2 n3 n4 n5 n6 n7 : Int) (h : W.heap[gv]? = some (.cells (arrU [v0, v1, v2, v3, v4, v5, v6, v7]) T (0, 0))) :
    ((((((((W.setCell ⟨gv, 0, none⟩ (.int .u32 n0)).setCell ⟨gv, 1, none⟩ (.int .u32 n1)).setCell ⟨gv, 2, none⟩ (.int .u32 n2)).setCell ⟨gv, 3, none⟩ (.int .u32 n3)).setCell ⟨gv, 4, none⟩ (.int .u32 n4)).setCell ⟨gv, 5, none⟩ (.int .u32 n5)).setCell ⟨gv, 6, none⟩ (.int .u32 n6)).setCell ⟨gv, 7, none⟩ (.int .u32 n7)).heap[gv]? = some (.cells (arrU [n0, n1, n2, n3, n4, n5, n6, n7]) T (0, 0)) := by
  have := blk_set (blk_set (blk_set (blk_set (blk_set (blk_set (blk_set (blk_set h 0 (.int .u32 n0)) 1 (.int .u32 n1)) 2 (.int .u32 n2)) 3 (.int .u32 n3)) 4 (.int .u32 n4)) 5 (.int .u32 n5)) 6 (.int .u32 n6)) 7 (.int .u32 n7)
  simp only [arrU_set] at this
  exact this
theorem eight_below {B : Nat} {w W : World} (h : Below B w W) {gv : Nat} (hg : B ≤ gv) (u0 u1 u2 u3 u4 u5 u6 u7 : Value) :
    Below B w ((((((((W.setCell ⟨gv, 0, none⟩ u0).setCell ⟨gv, 1, none⟩ u1).setCell ⟨gv, 2, none⟩ u2).setCell ⟨gv, 3, none⟩ u3).setCell ⟨gv, 4, none⟩ u4).setCell ⟨gv, 5, none⟩ u5).setCell ⟨gv, 6, none⟩ u6).setCell ⟨gv, 7, none⟩ u7) :=
  (((((((h.setCell (p := ⟨gv, 0, none⟩) hg _).setCell (p := ⟨gv, 1, none⟩) hg _).setCell (p := ⟨gv, 2, none⟩) hg _).setCell (p := ⟨gv, 3, none⟩) hg _).setCell (p := ⟨gv, 4, none⟩) hg _).setCell (p := ⟨gv, 5, none⟩) hg _).setCell (p := ⟨gv, 6, none⟩) hg _).setCell (p := ⟨gv, 7, none⟩) hg _
theorem eight_far {W : World} {g gv : Nat} {t : TypeId} {cs : Array Value} (h : W.heap[g]? = some (.cells cs t (0, 0))) (hne : g ≠ gv) (u0 u1 u2 u3 u4 u5 u6 u7 : Value) :
    ((((((((W.setCell ⟨gv, 0, none⟩ u0).setCell ⟨gv, 1, none⟩ u1).setCell ⟨gv, 2, none⟩ u2).setCell ⟨gv, 3, none⟩ u3).setCell ⟨gv, 4, none⟩ u4).setCell ⟨gv, 5, none⟩ u5).setCell ⟨gv, 6, none⟩ u6).setCell ⟨gv, 7, none⟩ u7).heap[g]? = some (.cells cs t (0, 0)) :=
  blk_far (blk_far (blk_far (blk_far (blk_far (blk_far (blk_far (blk_far h hne _) hne _) hne _) hne _) hne _) hne _) hne _) hne _
def addAt (hs vs : List Int) : Nat → List Int
  | 0 => hs
  | i + 1 => (addAt hs vs i).set i (((addAt hs vs i).getD i 0 + vs.getD i 0) % 4294967296)
theorem addAt_length (hs vs : List Int) (i : Nat) : (addAt hs vs i).length = hs.length := by
  induction i with
  | zero => rfl
  | succ i ih => simp [addAt, ih]
def turned (ks bs hs : List Int) : List Int := addAt hs (vAt ks (wAt bs 64) hs 64) 8

set_option maxHeartbeats 4000000 in
set_option maxRecDepth 100000 in
theorem turnBlock_calls (gh gk : Nat) (A : Option Addr) (c : Nat) (bs hs ks : List Int) (w : World) (hr : Kd.C (Kd.int .u8) w A bs.length bs) (hl : bs.length = 64) (hh : hs.length = 8) (hk : ks.length = 64)
    (hgh : w.heap[gh]? = some (.cells (arrU hs) 165 (0, 0))) (hgk : w.heap[gk]? = some (.cells (arrU ks) 183 (0, 0))) :
    Calls Try.prog 157 #[.pointer (some ⟨gh, 0, none⟩), .slice A bs.length c, .pointer (some ⟨gk, 0, none⟩)] w fun e w' => e = .returned (.tuple #[]) ∧ w.grownBy w' (some gh) ∧ w'.heap[gh]? = some (.cells (arrU (turned ks bs hs)) 165 (0, 0)) := by
  have HL := Aside0.mk hl
  have HK := Aside0.mk hk
  have HGH := Aside0.mk hgh
  have HGK := Aside0.mk hgk
  have HR := Aside0.mk hr
  obtain ⟨h0, h1, h2, h3, h4, h5, h6, h7, rfl⟩ := eight hh
  clear hr hl hh hk hgh hgk
  go_enter Try.func157, Try.ntmps157
  go_wp2_with (go_at_call 174; (with_reducible refine (wordsOf_calls _ _ bs _ HR.out HL.out).mono ?_); rintro e w1 ⟨gw, rfl, hw1, hw2, hb⟩; have HW1 := Aside0.mk hw1; have HW2 := Aside0.mk hw2; have HB := Aside0.mk hb; have HGH1 := Aside0.mk (blk_below HGH.out hb); have HGK1 := Aside0.mk (blk_below HGK.out hb); clear hw1 hw2 hb; have q0 := blk_cell HGH1.out 0; have q1 := blk_cell HGH1.out 1; have q2 := blk_cell HGH1.out 2; have q3 := blk_cell HGH1.out 3; have q4 := blk_cell HGH1.out 4; have q5 := blk_cell HGH1.out 5; have q6 := blk_cell HGH1.out 6; have q7 := blk_cell HGH1.out 7; simp only [arrU, nums, List.map_cons, List.map_nil, List.getElem?_toArray, List.getElem?_cons_zero, List.getElem?_cons_succ] at q0 q1 q2 q3 q4 q5 q6 q7)
  clear q0 q1 q2 q3 q4 q5 q6 q7
  have HGH2 := Aside0.mk (blk_alloc HGH1.out (.cells #[.int .u32 h0, .int .u32 h1, .int .u32 h2, .int .u32 h3, .int .u32 h4, .int .u32 h5, .int .u32 h6, .int .u32 h7] 165))
  have HGK2 := Aside0.mk (blk_alloc HGK1.out (.cells #[.int .u32 h0, .int .u32 h1, .int .u32 h2, .int .u32 h3, .int .u32 h4, .int .u32 h5, .int .u32 h6, .int .u32 h7] 165))
  have HW22 := Aside0.mk (blk_alloc HW2.out (.cells #[.int .u32 h0, .int .u32 h1, .int .u32 h2, .int .u32 h3, .int .u32 h4, .int .u32 h5, .int .u32 h6, .int .u32 h7] 165))
  have HN := Aside0.mk (blk_new w1 (.cells #[.int .u32 h0, .int .u32 h1, .int .u32 h2, .int .u32 h3, .int .u32 h4, .int .u32 h5, .int .u32 h6, .int .u32 h7] 165))
  have HB2 := Aside0.mk (HB.out.alloc HB.out.size (.cells #[.int .u32 h0, .int .u32 h1, .int .u32 h2, .int .u32 h3, .int .u32 h4, .int .u32 h5, .int .u32 h6, .int .u32 h7] 165))
  obtain ⟨gv, hgv⟩ : ∃ gv, w1.heap.size = gv := ⟨_, rfl⟩
  rw [hgv] at HN ⊢
  have HV := Aside0.mk (show w.heap.size ≤ gv from by rw [← hgv]; exact HB.out.size)
  clear hgv
  generalize w1.alloc (.cells #[.int .u32 h0, .int .u32 h1, .int .u32 h2, .int .u32 h3, .int .u32 h4, .int .u32 h5, .int .u32 h6, .int .u32 h7] 165) = w2 at HGH2 HGK2 HW22 HN HB2 ⊢
  clear HGH1 HGK1 HW2 HB
  go_loopw [22] (fun i W => ∃ k : Nat, k ≤ 64 ∧ i = .int .i64 k ∧ Aside0 (W.heap[gv]? = some (.cells (arrU (vAt ks (wAt bs 64) [h0, h1, h2, h3, h4, h5, h6, h7] k)) 165 (0, 0))) ∧ Aside0 (Below w.heap.size w W) ∧ Aside0 (W.heap[gw]? = some (.cells (arrU (wAt bs 64)) 183 (0, 0)))) (fun i _ => 64 - (intOf i).toNat)
  case atStart => exact ⟨0, by omega, rfl, HN, HB2, HW22⟩
  case round =>
    clear HN HB2 HW22
    obtain ⟨k, hk, rfl, HN, HB, HW⟩ := hrel
    by_cases hlt : k < 64
    · obtain ⟨v0, v1, v2, v3, v4, v5, v6, v7, hv⟩ : ∃ v0 v1 v2 v3 v4 v5 v6 v7, vAt ks (wAt bs 64) [h0, h1, h2, h3, h4, h5, h6, h7] k = [v0, v1, v2, v3, v4, v5, v6, v7] := eight (vAt_eight _ _ _ rfl k)
      have HN2 := HN.out
      rw [hv] at HN2
      have HNN := Aside0.mk HN2
      have q0 := blk_cell HN2 0
      have q1 := blk_cell HN2 1
      have q2 := blk_cell HN2 2
      have q3 := blk_cell HN2 3
      have q4 := blk_cell HN2 4
      have q5 := blk_cell HN2 5
      have q6 := blk_cell HN2 6
      have q7 := blk_cell HN2 7
      simp only [arrU, nums, List.map_cons, List.map_nil, List.getElem?_toArray, List.getElem?_cons_zero, List.getElem?_cons_succ] at q0 q1 q2 q3 q4 q5 q6 q7
      have f0 := blk_frozen HN2 0
      have f1 := blk_frozen HN2 1
      have f2 := blk_frozen HN2 2
      have f3 := blk_frozen HN2 3
      have f4 := blk_frozen HN2 4
      have f5 := blk_frozen HN2 5
      have f6 := blk_frozen HN2 6
      have f7 := blk_frozen HN2 7
      clear HN2
      have hkc : wr.cell? ⟨gk, k, none⟩ = some (.int .u32 (ks.getD k 0)) := (blk_cell ((HB.out.block gk (blk_lt HGK.out)).trans HGK.out) k).trans (arrU_get (by rw [HK.out]; omega))
      have hwc : wr.cell? ⟨gw, k, none⟩ = some (.int .u32 ((wAt bs 64).getD k 0)) := (blk_cell HW.out k).trans (arrU_get (by rw [wAt_length]; omega))
      obtain ⟨kc, gkc⟩ : ∃ a, ks.getD k 0 = a := ⟨_, rfl⟩
      obtain ⟨wc, gwc⟩ : ∃ a, (wAt bs 64).getD k 0 = a := ⟨_, rfl⟩
      rw [gkc] at hkc
      rw [gwc] at hwc
      have HV1 := Aside0.mk (show vAt ks (wAt bs 64) [h0, h1, h2, h3, h4, h5, h6, h7] (k + 1) = turnStep kc wc [v0, v1, v2, v3, v4, v5, v6, v7] from by rw [← hv, ← gkc, ← gwc]; rfl)
      clear hv gkc gwc
      have b22 : decide ((k : Int) < 64) = true := decide_eq_true (by omega)
      have l64 : (k : Int) < 64 := by omega
      go_wp2
      go_region
      go_wp2_with (first | (go_at_call 175; (first | (with_reducible refine (bits_RotateLeft32.calls _ _ _ _ (rot6 _)).mono ?_) | (with_reducible refine (bits_RotateLeft32.calls _ _ _ _ (rot11 _)).mono ?_) | (with_reducible refine (bits_RotateLeft32.calls _ _ _ _ (rot25 _)).mono ?_)); rintro e w' ⟨rfl, ⟨nd, rfl⟩⟩))
      go_region
      go_wp2_with (first | (go_at_call 175; (first | (with_reducible refine (bits_RotateLeft32.calls _ _ _ _ (rot2 _)).mono ?_) | (with_reducible refine (bits_RotateLeft32.calls _ _ _ _ (rot13 _)).mono ?_) | (with_reducible refine (bits_RotateLeft32.calls _ _ _ _ (rot22 _)).mono ?_)); rintro e w' ⟨rfl, ⟨nd, rfl⟩⟩))
      go_roundw
      case rel =>
        refine ⟨k + 1, by omega, by go_num, ⟨?_⟩, ⟨?_⟩, ⟨?_⟩⟩
        · rw [HV1.out]
          exact eight_set _ _ _ _ _ _ _ _ (blk_drewN HNN.out _)
        · exact eight_below (pw_below_drewN HB.out _) HV.out _ _ _ _ _ _ _ _
        · exact eight_far (blk_drewN HW.out _) (blk_ne HW.out HNN.out (by decide)) _ _ _ _ _ _ _ _
      case measure => simp [intOf]; omega
    · obtain rfl : k = 64 := by omega
      have b22 : decide (((64 : Nat) : Int) < 64) = false := by decide
      obtain ⟨wo, rfl⟩ : ∃ wo : World, wo = wr := ⟨_, rfl⟩
      go_wp2
      generalize hvv : vAt ks (wAt bs 64) [h0, h1, h2, h3, h4, h5, h6, h7] 64 = vs at HN
      have hvl : vs.length = 8 := by rw [← hvv]; exact vAt_eight _ _ _ rfl _
      have HVV := Aside0.mk hvv
      have HVL := Aside0.mk hvl
      clear hvv hvl
      go_loopw [109] (fun i W => ∃ k : Nat, k ≤ 8 ∧ i = .int .i64 k ∧ Aside0 (W.heap[gh]? = some (.cells (arrU (addAt [h0, h1, h2, h3, h4, h5, h6, h7] vs k)) 165 (0, 0))) ∧ Aside0 (W.heap[gv]? = some (.cells (arrU vs) 165 (0, 0))) ∧ Aside0 (w.grownBy W (some gh))) (fun i _ => 8 - (intOf i).toNat)
      case atStart => exact ⟨0, by omega, rfl, ⟨(HB.out.block gh (blk_lt HGH.out)).trans HGH.out⟩, HN, ⟨grown_of_below HB.out _⟩⟩
      case round =>
        clear hlt hk b22 HN HB HW
        obtain ⟨k, hk, rfl, HH, HN, HB⟩ := hrel
        by_cases hlt : k < 8
        · have hne : gh ≠ gv := by have := blk_lt HGH.out; have := HV.out; omega
          have HNE := Aside0.mk hne
          have ch : wr.cell? ⟨gh, k, none⟩ = some (.int .u32 ((addAt [h0, h1, h2, h3, h4, h5, h6, h7] vs k).getD k 0)) := (blk_cell HH.out k).trans (arrU_get (by rw [addAt_length]; exact hlt))
          have cv : wr.cell? ⟨gv, k, none⟩ = some (.int .u32 (vs.getD k 0)) := (blk_cell HN.out k).trans (arrU_get (by rw [HVL.out]; exact hlt))
          obtain ⟨a, ga⟩ : ∃ a, (addAt [h0, h1, h2, h3, h4, h5, h6, h7] vs k).getD k 0 = a := ⟨_, rfl⟩
          obtain ⟨b, gb⟩ : ∃ a, vs.getD k 0 = a := ⟨_, rfl⟩
          rw [ga] at ch
          rw [gb] at cv
          have G := Aside0.mk (show addAt [h0, h1, h2, h3, h4, h5, h6, h7] vs (k + 1) = (addAt [h0, h1, h2, h3, h4, h5, h6, h7] vs k).set k ((a + b) % 4294967296) from by rw [← ga, ← gb]; rfl)
          have fh := blk_frozen HH.out k
          have b110 : decide ((k : Int) < 8) = true := decide_eq_true (by omega)
          have l8 : (k : Int) < 8 := by omega
          clear ga gb hne
          go_wp2
          go_region
          go_wp2
          go_roundw
          case rel =>
            refine ⟨k + 1, by omega, by go_num, ⟨?_⟩, ⟨?_⟩, ⟨?_⟩⟩
            · rw [G.out, ← arrU_set]
              exact blk_set (blk_drew HH.out) k _
            · exact blk_far (blk_drew HN.out) HNE.out.symm _
            · exact ⟨HB.out.os, HB.out.tape, HB.out.output, by simpa [World.setCell] using HB.out.size, fun i hi hn => (Below.heap_setCell _ _ _ _ (fun e => hn (by rw [e]))).trans (HB.out.block i hi hn)⟩
          case measure => simp [intOf]; omega
        · obtain rfl : k = 8 := by omega
          have b110 : decide (((8 : Nat) : Int) < 8) = false := by decide
          go_wp2
          refine bodyPost_end (results_none rfl _ _ _) rfl ?_
          refine ⟨rfl, HB.out, ?_⟩
          unfold turned
          rw [HVV.out]
          exact HH.out
end Go.Proofs.Ytoipfpjcpngpfaa.Q
end

section
/- slices.Chunk of bytes, 64 at a time, over a row whose length is a multiple of 64: the iterator's contract; a round may write one block of its caller's. -/
namespace Go.Proofs.Ytoipfpjcpngpfaa.Q
open Go.RowKit Go.Shelf Go.Proofs.YtoipfpjcpngpfaaW.PrintWords Go.Proofs.YtoipfpjcpngpfaaW.PrintLast Go.Proofs.YtoipfpjcpngpfaaW.PrintMore
set_option linter.unusedVariables false
set_option linter.unusedSimpArgs false

/-- Below block B, but for block g, the world is as it was. -/
structure BelowBut (B g : Nat) (w w' : World) : Prop where
  os : w'.os = w.os
  tape : w'.tape = w.tape
  output : w'.output = w.output
  size : w.heap.size ≤ w'.heap.size
  block : ∀ k, k < B → k ≠ g → w'.heap[k]? = w.heap[k]?
theorem BelowBut.refl (B g : Nat) (w : World) : BelowBut B g w w := ⟨rfl, rfl, rfl, Nat.le_refl _, fun _ _ _ => rfl⟩
theorem BelowBut.trans {B g : Nat} {a b c : World} (h : BelowBut B g a b) (k : BelowBut B g b c) : BelowBut B g a c :=
  ⟨k.os.trans h.os, k.tape.trans h.tape, k.output.trans h.output, Nat.le_trans h.size k.size, fun i hi hn => (k.block i hi hn).trans (h.block i hi hn)⟩
theorem BelowBut.drew {B g : Nat} {a w : World} (h : BelowBut B g a w) : BelowBut B g a w.drew := ⟨h.os, h.tape, h.output, h.size, h.block⟩
theorem BelowBut.grown {B g : Nat} {w w' : World} (h : w.grownBy w' (some g)) (hB : B ≤ w.heap.size) : BelowBut B g w w' :=
  ⟨h.os, h.tape, h.output, h.size, fun k hk hn => h.block k (by omega) (fun e => hn (Option.some.inj e))⟩
theorem BelowBut.putObj {n₀ g : Nat} {w : World} (hn : n₀ ≤ w.heap.size) (W : World) (l : Nat) (o o' : Obj) (hl : w.heap.size ≤ l) (h : W.heap[l]? = some o) (_ : o.isCells = false) (_ : o.isWalk = false) : BelowBut n₀ g W (W.putObj l o') := by
  have hg := grownBy_putObj' W l o'
  exact ⟨hg.os, hg.tape, hg.output, hg.size, fun k hk _ => hg.block k (by have := (Array.getElem?_eq_some_iff.1 h).1; omega) (fun e => by cases e; omega)⟩
theorem BelowBut.cell {B g : Nat} {w w' : World} (h : BelowBut B g w w') {p : Addr} (hp : p.block < B) (hn : p.block ≠ g) : w'.cell? p = w.cell? p := World.cell?_of_block (w := w) (h.block p.block hp hn)

/-- The places at which the blocks begin. -/
def starts (k : Nat) : List Nat := (List.range k).map (64 * ·)
theorem starts_succ (k : Nat) : starts (k + 1) = starts k ++ [64 * k] := by simp [starts, List.range_succ]
theorem starts_length (k : Nat) : (starts k).length = k := by simp [starts]

attribute [local go_sem] Oper.semAt_some

set_option maxRecDepth 100000 in
set_option maxHeartbeats 2000000 in
theorem chunk1_in (F : Fence) (n : Nat) (hF : F.fn 172) (hro : F.round = none) (hn : 1 ≤ n) (l Bs Bn n₀ gh b off cap m L : Nat) (hL : L = 64 * m) (hcap : L ≤ cap) (hreach : L ≤ 140737488355328)
    (hb : b < n₀) (hbs : Bs < n₀) (hbn : Bn < n₀) (hs1 : Bs ≠ gh) (hs2 : Bn ≠ gh) (J Jx : List Nat → World → Prop)
    (hY : ∀ pre x W, J pre W → pre.length < m → x + 64 ≤ L → YieldAt F (n - 1) Try.prog l #[.slice (some ⟨b, off + x, none⟩) 64 64] W fun e W' =>
      (e = .returned (.bool true) ∧ J (pre ++ [x]) W' ∧ BelowBut n₀ gh W W') ∨ (e = .returned (.bool false) ∧ Jx (pre ++ [x]) W'))
    (W : World) (hJ : AbidesFrom W.heap.size J) (hBs : W.cell? ⟨Bs, 0, none⟩ = some (.slice (some ⟨b, off, none⟩) L cap)) (hBn : W.cell? ⟨Bn, 0, none⟩ = some (.int .i64 64)) (h0 : J [] W) :
    CallsIn F n Try.prog 172 #[.func (.yield l) #[] #[], .pointer (some ⟨Bs, 0, none⟩), .pointer (some ⟨Bn, 0, none⟩)] W fun e W' => (∃ v, e = .returned v) ∧
      ((∃ ys, ys = starts m ∧ J ys W') ∨ (∃ pre, True ∧ Jx pre W')) := by
  refine callsIn_of_wp Try.func172 rfl hF ?_ hro
  have HL := Aside0.mk hL
  clear hL
  simp only [Try.ntmps172, List.size_toArray, List.length_cons, List.length_nil, Nat.reduceAdd, Nat.reduceSub, Array.replicate_succ, Array.replicate_zero, List.push_toArray, List.append_toArray, List.nil_append, List.cons_append]
  gi_wp2
  gi_loopw [4] (fun i wr => ∃ k i0 : Nat, k ≤ m ∧ Aside0 (i0 = 64 * k) ∧ i = .int .i64 i0 ∧ J (starts k) wr ∧ BelowBut n₀ gh W wr)
    (fun i _ => L - (intOf i).toNat)
  case atStart => exact ⟨0, 0, Nat.zero_le _, ⟨rfl⟩, rfl, h0, BelowBut.refl _ _ _⟩
  case round =>
    obtain ⟨k, i, hk, HI, rfl, hJs, hnx⟩ := hrel
    have c1 : wr.cell? ⟨Bs, 0, none⟩ = some (.slice (some ⟨b, off, none⟩) L cap) := (hnx.cell (p := ⟨Bs, 0, none⟩) hbs hs1).trans hBs
    have c2 : wr.cell? ⟨Bn, 0, none⟩ = some (.int .i64 64) := (hnx.cell (p := ⟨Bn, 0, none⟩) hbn hs2).trans hBn
    have hi := HI.out
    have hl := HL.out
    by_cases hlt : i < L
    · have hdrew : J (starts k) wr.drew := hJ _ _ _ none hJs ⟨rfl, rfl, rfl, Nat.le_refl _, fun _ _ _ => rfl⟩ (fun r e => by cases e)
      obtain ⟨fn, tmps, assign, body, hy, hR⟩ := hY _ i wr.drew hdrew (by rw [starts_length]; omega) (by omega)
      have hle : i + 64 ≤ L := by omega
      clear hi hl
      have b1 : decide (i < L) = true := decide_eq_true hlt
      gi_wp2
      gi_region
      all_goals
        gi_wp2
        refine hR.mono ?_
        rintro e W3 (⟨rfl, hJ3, hk3⟩ | ⟨rfl, hJx3⟩)
        · have c3 : W3.cell? ⟨Bn, 0, none⟩ = some (.int .i64 64) := (hk3.cell (p := ⟨Bn, 0, none⟩) hbn hs2).trans c2
          gi_wp2
          go_roundw
          case rel => exact ⟨k + 1, i + 64, by have h1 := HI.out; have h2 := HL.out; omega, ⟨by have h1 := HI.out; omega⟩, by go_num, by rw [starts_succ, ← HI.out]; exact hJ3, hnx.drew.trans hk3⟩
          case measure => simp [intOf]; omega
        · gi_wp2
          refine bodyPost_ret (results_none rfl _ _ _) rfl ?_
          exact ⟨⟨_, rfl⟩, .inr ⟨_, trivial, hJx3⟩⟩
    · have b1 : decide (i < L) = false := decide_eq_false hlt
      have hkm : k = m := by omega
      rw [hkm] at hJs
      clear hi hl hkm
      gi_wp2
      go_end0
      exact ⟨⟨_, rfl⟩, .inl ⟨_, rfl, hJs⟩⟩

/-- slices.Chunk(s, 64) as a sequence: all of s, 64 bytes at a time. -/
theorem chunk_stops (F : Fence) (n : Nat) (hF : F.fn 172) (hro : F.round = none) (hn : 1 ≤ n) (Bs Bn n₀ gh b off cap m L : Nat) (hL : L = 64 * m) (hcap : L ≤ cap) (hreach : L ≤ 140737488355328)
    (hb : b < n₀) (hbs : Bs < n₀) (hbn : Bn < n₀) (hs1 : Bs ≠ gh) (hs2 : Bn ≠ gh) (w : World) (hn₀ : n₀ ≤ w.heap.size)
    (hBs : w.cell? ⟨Bs, 0, none⟩ = some (.slice (some ⟨b, off, none⟩) L cap)) (hBn : w.cell? ⟨Bn, 0, none⟩ = some (.int .i64 64)) :
    SeqStopsK F n Try.prog 172 #[.pointer (some ⟨Bs, 0, none⟩), .pointer (some ⟨Bn, 0, none⟩)] (fun x : { x : Nat // x + 64 ≤ L } => #[Value.slice (some ⟨b, off + x.1, none⟩) 64 64]) (BelowBut n₀ gh)
      (fun ys => ys.map (·.1) = starts m) (fun _ => True) m w := fun l J Jx W hW hJ _ hY h0 => by
  have hBs' := (hW.cell (p := ⟨Bs, 0, none⟩) (Nat.lt_of_lt_of_le hbs hn₀)).trans hBs
  have hBn' := (hW.cell (p := ⟨Bn, 0, none⟩) (Nat.lt_of_lt_of_le hbn hn₀)).trans hBn
  refine (chunk1_in F n hF hro hn l Bs Bn n₀ gh b off cap m L hL hcap hreach hb hbs hbn hs1 hs2 (fun pre W => ∃ q : List { x : Nat // x + 64 ≤ L }, q.map (·.1) = pre ∧ J q W) (fun pre W => ∃ q : List { x : Nat // x + 64 ≤ L }, q.map (·.1) = pre ∧ Jx q W) ?_ W ?_ hBs' hBn' ⟨[], rfl, h0⟩).mono ?_
  · rintro pre x W1 ⟨q, rfl, hq⟩ hlen hx
    obtain ⟨fn, tmps, assign, body, hy, hR⟩ := hY q ⟨x, hx⟩ W1 hq (by simpa using hlen)
    refine ⟨fn, tmps, assign, body, hy, hR.mono ?_⟩
    rintro e W' (⟨rfl, hJ1, hk⟩ | ⟨rfl, hJx⟩)
    · exact .inl ⟨rfl, ⟨_, by simp, hJ1⟩, hk⟩
    · exact .inr ⟨rfl, _, by simp, hJx⟩
  · rintro s A B row ⟨q, rfl, hq⟩ hg hr
    exact ⟨q, rfl, hJ q A B row hq hg hr⟩
  · rintro e W' ⟨he, ⟨ys, rfl, q, hq, hj⟩ | ⟨pre, _, q, hq, hj⟩⟩
    · exact ⟨he, .inl ⟨q, hq, hj⟩⟩
    · exact ⟨he, .inr ⟨q, trivial, hj⟩⟩

set_option maxHeartbeats 1000000 in
set_option maxRecDepth 100000 in
/-- slices.Chunk(s, 64): s and 64 are boxed; the function value captures the boxes. -/
theorem chunk_in (F : Fence) (n : Nat) (hF : F.fn 155) (hro : F.round = none) (a : Option Addr) (len cap : Nat) (w : World) :
    CallsIn F n Try.prog 155 #[.slice a len cap, .int .i64 64] w fun e w' => e = .returned (.func (.func 172) #[] #[.pointer (some ⟨w.heap.size, 0, none⟩), .pointer (some ⟨w.heap.size + 1, 0, none⟩)]) ∧ w' = (w.alloc (.cells #[.slice a len cap] 28)).alloc (.cells #[.int .i64 64] 3) := by
  refine callsIn_of_wp Try.func155 rfl hF ?_ hro
  simp only [Try.ntmps155, List.size_toArray, List.length_cons, List.length_nil, Nat.reduceAdd, Nat.reduceSub, Array.replicate_succ, Array.replicate_zero, List.push_toArray, List.append_toArray, List.nil_append, List.cons_append]
  gi_wp2
  go_ret
  exact ⟨rfl, rfl⟩
end Go.Proofs.Ytoipfpjcpngpfaa.Q
end

section
/- Plain words for the pure proofs: numbers that need no wrap, lists by their places, and answers that stand from some number of rounds on. -/
namespace Go.Proofs.Ytoipfpjcpngpfaa.B
open Go.RowKit Go.Proofs.YtoipfpjcpngpfaaW.PrintWords

theorem w64 {x : Int} (h0 : -9223372036854775808 ≤ x) (h1 : x ≤ 9223372036854775807) : wrap64 x = x := by
  unfold wrap64
  omega

theorem Ev.pos {α : Type} {c : Prop} [Decidable c] {g f : Nat → Option α} {r : α} (h : c) (k : Ev g r) : Ev (fun n => if c then g n else f n) r := Ev.congr (fun _ => if_pos h) k
theorem Ev.neg {α : Type} {c : Prop} [Decidable c] {g f : Nat → Option α} {r : α} (h : ¬ c) (k : Ev f r) : Ev (fun n => if c then g n else f n) r := Ev.congr (fun _ => if_neg h) k
theorem Ev.const {α : Type} {a : Option α} {r : α} (h : a = some r) : Ev (fun _ => a) r := ⟨0, fun _ _ => h⟩
theorem Ev.one {α : Type} {g : Nat → Option α} {a r : α} (h : Ev g a) (e : a = r) : Ev g r := e ▸ h

theorem rdOf_at {α : Type} {d : α} {l : List α} {i : Nat} {x : α} (h : l[i]? = some x) : rdOf d l (i : Int) = x := by
  unfold rdOf
  simp [List.getD_eq_getElem?_getD, h]
theorem bytes_ext {a b : ByteArray} (h : a.toList = b.toList) : a = b := by
  have hd : ∀ c : ByteArray, c.toList = c.data.toList := fun c => Go.Lib.toList_data c
  rw [hd, hd] at h
  cases a
  cases b
  simpa [Array.toList_inj] using h
theorem take_one {α : Type} {l : List α} {i : Nat} {x : α} (h : l[i]? = some x) : l.take (i + 1) = l.take i ++ [x] := by
  obtain ⟨hi, he⟩ := List.getElem?_eq_some_iff.1 h
  rw [List.take_succ_eq_append_getElem hi, he]
theorem drop_one {α : Type} {l : List α} {i : Nat} {x : α} (h : l[i]? = some x) : l.drop i = x :: l.drop (i + 1) := by
  obtain ⟨hi, he⟩ := List.getElem?_eq_some_iff.1 h
  rw [List.drop_eq_getElem_cons hi, he]
theorem set_take {α : Type} {l : List α} {i : Nat} (x : α) (hi : i < l.length) : (l.set i x).take (i + 1) = l.take i ++ [x] := by
  rw [List.take_succ_eq_append_getElem (by simpa using hi)]
  simp [List.take_set_of_le]
theorem get_some {α : Type} {l : List α} {i : Nat} (hi : i < l.length) : ∃ x, l[i]? = some x := ⟨l[i], List.getElem?_eq_getElem hi⟩
/-- Bytes of all texts of a list. -/
def total (l : List ByteArray) : Int := (l.map fun s => (s.size : Int)).sum
theorem total_nonneg (l : List ByteArray) : 0 ≤ total l := by
  unfold total
  induction l with
  | nil => simp
  | cons a l ih =>
    simp only [List.map_cons, List.sum_cons]
    omega
theorem total_cons (a : ByteArray) (l : List ByteArray) : total (a :: l) = a.size + total l := by simp [total]
theorem total_mem {l : List ByteArray} {s : ByteArray} (h : s ∈ l) : (s.size : Int) ≤ total l := by
  induction l with
  | nil => simp at h
  | cons a l ih =>
    rw [total_cons]
    have := total_nonneg l
    rcases List.mem_cons.1 h with rfl | h
    · omega
    · have := ih h
      omega
end Go.Proofs.Ytoipfpjcpngpfaa.B
end

section
/- slices.Clone of bytes and of texts: the same list in new memory (bounds: what append takes). -/
namespace Go.Proofs.Ytoipfpjcpngpfaa.Q
open Go.RowKit Go.Proofs.YtoipfpjcpngpfaaW.PrintWords Go.Proofs.YtoipfpjcpngpfaaW.PrintLast Go.Proofs.YtoipfpjcpngpfaaW.PrintMore
set_option linter.unusedVariables false
set_option linter.unusedSimpArgs false

def slices_Clone_byte_byte.f (l0 : List Int) : Option (List Int) := if l0.length ≤ 140737488355328 then some l0 else none
theorem slices_Clone_byte_byte.info : (Try.prog.info? 5).map (fun i => (i.zero, i.size, i.bytes)) = some (some (.int .u8 0), 1, 1) := by kernel_rfl
set_option maxHeartbeats 1000000 in
set_option maxRecDepth 100000 in
theorem slices_Clone_byte_byte.calls (A0 : Option Addr) (c0 : Nat) (l0 : List Int) (r : List Int) (w : World) (hr0 : Kd.C (Kd.int .u8) w A0 l0.length l0) (hc0 : l0.length ≤ c0) (h : slices_Clone_byte_byte.f l0 = some r) :
    Calls Try.prog 173 #[.slice A0 l0.length c0] w fun e w' => ∃ v0_ : Value, e = .returned (v0_) ∧ Kd.R (Kd.int .u8) 5 w' w.heap.size (fun _ => True) v0_ r ∧ Below w.heap.size w w' := by
  unfold slices_Clone_byte_byte.f at h
  by_cases hl : l0.length ≤ 140737488355328
  · rw [if_pos hl] at h
    obtain rfl := Option.some.inj h
    have LM := Aside0.mk hl
    have HR0 := Aside0.mk hr0
    have HC0 := Aside0.mk hc0
    have hn := fun W : World => Lib.run_eql_slice_nil (P := Try.prog) W 28 5 A0 l0.length c0 0 0 Try.underlying28
    clear hl h hc0
    cases A0 with
    | none =>
      have h0 : l0 = [] := by
        rcases Nat.eq_zero_or_pos l0.length with hz | hz
        · exact List.eq_nil_of_length_eq_zero hz
        · obtain ⟨ad, he, _⟩ := hr0.2.2 hz
          cases he
      subst h0
      clear hr0 hn
      have hn2 := fun W : World => Lib.run_eql_slice_nil (P := Try.prog) W 28 5 none 0 c0 0 0 Try.underlying28
      go_enter Try.func173, Try.ntmps173
      go_wp2
      go_ret
      exact ⟨_, rfl, Kd.R_nil _ _ _ _ _, Below.refl _ _⟩
    | some ad =>
      clear hr0
      go_enter Try.func173, Try.ntmps173
      go_wp2_with (first | ((with_reducible refine gate_dst (N := 5) rfl ?_); refine Kd.R_lit (Kd.int .u8) _ 5 ?hg (N := 5) ?hd (w0 := w) (xs := ([] : List Int)) (inner := []) (ok := fun _ => True) (okp := fun _ => True) ?hr ?hp (fun _ hk => hk) trivial (Below.refl _ _) (Nat.le_refl _) (by simp) ?_; (case hd => rfl); (case hg => rfl); (case hr => first | (go_simp; done) | (go_simp; rfl)); (case hp => exact (Reps.none _ _)); intro v1 w4 ho5 hb hg_ hnew_; clear hg_ hnew_; have HO := Aside0.mk ho5; have HB := Aside0.mk hb; clear ho5 hb) | ((with_reducible refine gate_builtin (b := .append) (xs := #[.tmp 5, .tmp 6]) rfl ?_); at_builtin; refine Kd.R_append_rows (Kd.int .u8) (w0 := w) w.heap.size rfl (.tmp 5) (.tmp 6) 28 5 (.int .u8 0) 1 rfl Try.underlying28 slices_Clone_byte_byte.info rfl (by decide) (by omega) v1 [] l0 _ _ _ (fun _ => True) (fun _ => False) rfl rfl ?aO ?aR (fun _ _ h => h) (fun _ h => h.elim) ?aF ?aB ?aS ?aL ?_; (case aR => exact Kd.C_below HR0.out HB.out); (case aB => exact HB.out); (case aF => exact (fun _ _ => trivial)); (case aO => exact HO.out); (case aS => exact HB.out.size); (case aL => have := LM.out; simp only [List.length_nil]; omega); intro v2 w6 ho hb hg hat; have HO2 := Aside0.mk ho; have HB2 := Aside0.mk hb; clear ho hb hg hat))
      go_ret
      exact ⟨_, rfl, by simpa using HO2.out, HB2.out⟩
  · rw [if_neg hl] at h
    cases h
end Go.Proofs.Ytoipfpjcpngpfaa.Q
end

section
-- Written by a program of this session (wip/tools/pp.sh) over the print of the kit.
namespace Go.Proofs.Ytoipfpjcpngpfaa.Q
open Go.RowKit Go.Proofs.YtoipfpjcpngpfaaW.PrintWords Go.Proofs.YtoipfpjcpngpfaaW.PrintLast Go.Proofs.YtoipfpjcpngpfaaW.PrintMore
attribute [local go_sem] max2_int min2_int max_two min_two max_three min_three max_four min_four   -- for this text's walks alone
set_option linter.unusedVariables false
set_option linter.unusedSimpArgs false

/-! ### impl_Padded: function 156 -/
mutual
def impl_Padded.l0 : Nat → List Int → List Int → Option (List Int)
  | 0, _, _ => none
  | k + 1, x0, x3 => if (Int.tmod (wrap64 ((x3.length : Int) + 8)) 64) = 0 then (impl_Padded.l1 k x3 (wrap64 (8 * (x0.length : Int))) 7) else (if x3.length < 140737488355328 then (impl_Padded.l0 k x0 (x3 ++ [0])) else (none))
def impl_Padded.l1 : Nat → List Int → Int → Int → Option (List Int)
  | 0, _, _, _ => none
  | k + 1, x3, x4, x5 => if x5 ≥ 0 then (if 0 ≤ (IntKind.u64.wrap (wrap64 (8 * x5))) then (if x3.length < 140737488355328 then (impl_Padded.l1 k (x3 ++ [(shr .i64 x4 (IntKind.u64.wrap (wrap64 (8 * x5)))) % 256]) x4 (wrap64 (x5 - 1))) else (none)) else (none)) else (some x3)
end
def impl_Padded.f (k : Nat) (l0 : List Int) : Option (List Int) := (slices_Clone_byte_byte.f l0).bind fun t601 => (if t601.length < 140737488355328 then (impl_Padded.l0 k l0 (t601 ++ [128])) else (none))
theorem impl_Padded.mono_l : ∀ k, (∀ y0 y1, LeO (impl_Padded.l0 k y0 y1) (impl_Padded.l0 (k + 1) y0 y1)) ∧ (∀ y0 y1 y2, LeO (impl_Padded.l1 k y0 y1 y2) (impl_Padded.l1 (k + 1) y0 y1 y2))
  | 0 => ⟨fun _ _ r h => by simp [impl_Padded.l0] at h, fun _ _ _ r h => by simp [impl_Padded.l1] at h⟩
  | k + 1 => by
    obtain ⟨ih0, ih1⟩ := impl_Padded.mono_l k
    refine ⟨?_, ?_⟩
    · intro y0 y1
      unfold impl_Padded.l0
      repeat' first
      | (with_reducible exact ih0 _ _)
      | (with_reducible exact ih1 _ _ _)
      | (with_reducible exact LeO.refl _)
      | (with_reducible exact LeO.none _)
      | (with_reducible refine LeO.ite ?_ ?_)
      | (with_reducible refine LeO.bind ?_ (fun _ => ?_))
      | exact ih0 _ _
      | exact ih1 _ _ _
      | exact LeO.none _
      | refine LeO.ite ?_ ?_
      | refine LeO.bind ?_ (fun _ => ?_)
    · intro y0 y1 y2
      unfold impl_Padded.l1
      repeat' first
      | (with_reducible exact ih0 _ _)
      | (with_reducible exact ih1 _ _ _)
      | (with_reducible exact LeO.refl _)
      | (with_reducible exact LeO.none _)
      | (with_reducible refine LeO.ite ?_ ?_)
      | (with_reducible refine LeO.bind ?_ (fun _ => ?_))
      | exact ih0 _ _
      | exact ih1 _ _ _
      | exact LeO.none _
      | refine LeO.ite ?_ ?_
      | refine LeO.bind ?_ (fun _ => ?_)
theorem impl_Padded.mono : ∀ a0 k, LeO (impl_Padded.f k a0) (impl_Padded.f (k + 1) a0) := by
  intro a0 k
  obtain ⟨ih0, ih1⟩ := impl_Padded.mono_l k
  unfold impl_Padded.f
  repeat' first
      | (with_reducible exact ih0 _ _)
      | (with_reducible exact ih1 _ _ _)
      | (with_reducible exact LeO.refl _)
      | (with_reducible exact LeO.none _)
      | (with_reducible refine LeO.ite ?_ ?_)
      | (with_reducible refine LeO.bind ?_ (fun _ => ?_))
      | exact ih0 _ _
      | exact ih1 _ _ _
      | exact LeO.none _
      | refine LeO.ite ?_ ?_
      | refine LeO.bind ?_ (fun _ => ?_)
set_option maxHeartbeats 8000000 in
set_option maxRecDepth 100000 in
theorem impl_Padded.calls (k : Nat) (A0 : Option Addr) (c0 : Nat) (l0 : List Int) (r : List Int) (w : World) (hr0 : Kd.C (Kd.int .u8) w A0 l0.length l0) (hc0 : l0.length ≤ c0) (h : impl_Padded.f k l0 = some r) :
    Calls Try.prog 156 #[.slice A0 l0.length c0] w fun e w' => ∃ v0_ : Value, e = .returned (v0_) ∧ Kd.R (Kd.int .u8) 5 w' w.heap.size (fun _ => True) v0_ r ∧ Below w.heap.size w w' := by
  have HR0 := Aside0.mk hr0
  have HC0 := Aside0.mk hc0
  clear hr0 hc0
  have HB := Aside0.mk (Below.refl w.heap.size w)
  have H : ((slices_Clone_byte_byte.f l0).bind fun t601 => (if t601.length < 140737488355328 then (impl_Padded.l0 k l0 (t601 ++ [128])) else (none))) = some r := h
  clear h
  replace H := Option.bind_eq_some_iff.mp H
  obtain ⟨t601, A20, H⟩ := H
  replace H : (if t601.length < 140737488355328 then (impl_Padded.l0 k l0 (t601 ++ [128])) else (none)) = some r := H
  have A2 := Aside0.mk A20
  clear A20
  by_cases c3 : t601.length < 140737488355328
  · rw [if_pos c3] at H
    have LMc3 := Aside0.mk c3
    clear c3
    obtain ⟨y604, hy604⟩ : ∃ y_ : List Int, y_ = (t601 ++ [128]) := ⟨_, rfl⟩
    replace H : (impl_Padded.l0 k l0 y604) = some r := by first | (rw [hy604]; with_reducible exact H) | (have H2_ := (Option.bind_some _ _).symm.trans H; rw [hy604]; with_reducible exact H2_) | (have H2_ := (Option.bind_some _ _).symm.trans H; with_reducible exact H2_) | with_reducible exact H | (rw [hy604]; exact H) | exact H
    have Ny604 := Aside0.mk hy604
    clear hy604
    have H' := Aside0.mk H
    clear H
    go_enter Try.func156, Try.ntmps156
    go_wp2_with (first | ((with_reducible refine gate_callee (f := 173) rfl ?_); refine goesL_ (some 7) rfl rfl Try.func173 (by kernel_rfl) rfl #[.slice A0 l0.length c0] rfl (by (try simp only [List.map_toArray, List.map_cons, List.map_nil]); first | done | rfl | (simp only [List.length_drop, List.length_take]; rfl)) ?_; (with_reducible refine (slices_Clone_byte_byte.calls _ _ l0 t601 _ ?side1 ?side2 A2.out).mono ?_); (case side1 => repeat (first | exact HR0.out | (with_reducible refine Kd.C_alloc ?_ _) | (with_reducible refine Kd.C_drewN ?_ _) | (with_reducible refine Kd.C_drew ?_))); (case side2 => exact HC0.out); rintro e w4 ⟨v602, rfl, ho0, hb⟩; refine ⟨_, rfl, ?_⟩; have n0_ := Aside0.mk (Kd.R_lower ho0 (below_size (by repeat (first | (with_reducible first | exact HB.out | apply below_alloc | apply pw_below_drewN | apply below_drew1) | exact HB.out)))); have n1_ := Aside0.mk (below_step (by repeat (first | (with_reducible first | exact HB.out | apply below_alloc | apply pw_below_drewN | apply below_drew1) | exact HB.out)) hb); clear HB; have HO603 := n0_; have HB := n1_; clear n0_ n1_; (try clear hb); (try clear hb2); (try clear hk); (try clear hi); (try clear ho0)) | ((with_reducible refine gate_builtin (b := .append) (xs := #[.tmp 7, .tmp 8]) rfl ?_); at_builtin; refine Kd.R_append (Kd.int .u8) (w0 := w) w.heap.size rfl (.tmp 7) (.tmp 8) 28 5 (.int .u8 0) 1 rfl Try.underlying28 info5 rfl (by decide) (by omega) v602 t601 128 [.int .u8 128] (fun _ => True) (fun _ => False) rfl rfl ?aP (fun _ hk => hk.elim) ?aF ?aO ?aB ?aS ?aL ?_; (case aP => exact rfl); (case aB => exact (by repeat (first | (with_reducible first | exact HB.out | apply below_alloc | apply pw_below_drewN | apply below_drew1) | exact HB.out))); (case aF => exact (fun _ _ => trivial)); (case aO => exact (by (with_reducible repeat (first | apply Kd.R_alloc | apply Kd.R_drewN | apply Kd.R_drew)); exact HO603.out)); (case aS => exact (below_size (by repeat (first | (with_reducible first | exact HB.out | apply below_alloc | apply pw_below_drewN | apply below_drew1) | exact HB.out)))); (case aL => have := LMc3.out; omega); intro v605 w5 ho hb hg hat; rw [← Ny604.out] at ho; have n0_ := Aside0.mk (hb); have n1_ := Aside0.mk (ho); clear HB; clear HO603; have HB := n0_; have HO606 := n1_; clear n0_ n1_; clear ho hb hg hat))
    go_loopg [3] k (fun kq v3 w' => ∃ (x3_1 : List Int), Aside0 (impl_Padded.l0 kq l0 x3_1 = some r) ∧ Aside0 (kq ≤ k) ∧ Aside0 (Kd.R (Kd.int .u8) 5 w' w.heap.size (fun _ => True) v3 x3_1) ∧ Aside0 (Below w.heap.size w w'))
    case atStart => exact ⟨(y604), H', ⟨Nat.le_refl _⟩, ⟨by (with_reducible repeat (first | apply Kd.R_alloc | apply Kd.R_drewN | apply Kd.R_drew)); exact HO606.out⟩, ⟨by repeat (first | (with_reducible first | exact HB.out | apply below_alloc | apply pw_below_drewN | apply below_drew1) | exact HB.out)⟩⟩
    case round =>
      clear H'
      try clear c1
      try clear p2
      try clear c3
      obtain ⟨x3_1, HA, HK1, HO_3, HB⟩ := hrel
      cases gk with
      | zero => exact absurd HA.out (by simp [impl_Padded.l0])
      | succ k1 =>
        have H := HA.out
        clear HA
        simp only [impl_Padded.l0] at H
        by_cases c6 : (Int.tmod (wrap64 ((x3_1.length : Int) + 8)) 64) = 0
        · rw [if_pos c6] at H
          have c6b0 : ((Int.tmod (wrap64 ((x3_1.length : Int) + 8)) 64) == 0) = true := beq_iff_eq.mpr c6
          have c6b1 : ((Int.tmod (wrap64 ((x3_1.length : Int) + 8)) 64) != 0) = false := bne_eq_false_iff_eq.mpr c6
          clear c6
          have H' := Aside0.mk H
          clear H
          obtain ⟨Ao7, co7, eo7⟩ := Kd.R_slice HO_3.out
          subst eo7
          go_wp2
          go_loopg [3, 5] k1 (fun kq v3 v5 w' => ∃ (x3_2 : List Int) (x5_2 : Int), v5 = .int .i64 x5_2 ∧ Aside0 (impl_Padded.l1 kq x3_2 (wrap64 (8 * (l0.length : Int))) x5_2 = some r) ∧ Aside0 (kq ≤ k1) ∧ Aside0 (Kd.R (Kd.int .u8) 5 w' w.heap.size (fun _ => True) v3 x3_2) ∧ Aside0 (Below w.heap.size w w'))
          case atStart => exact ⟨(x3_1), (7), (by first | rfl | (simp; done) | (simp [*]; done)), H', ⟨Nat.le_refl _⟩, ⟨by (with_reducible repeat (first | apply Kd.R_alloc | apply Kd.R_drewN | apply Kd.R_drew)); exact HO_3.out⟩, ⟨by repeat (first | (with_reducible first | exact HB.out | apply below_alloc | apply pw_below_drewN | apply below_drew1) | exact HB.out)⟩⟩
          case round =>
            clear H'
            try clear c1
            try clear p2
            try clear c3
            try clear c6
            try clear c6b0
            try clear c6b1
            try clear p6
            try clear p2
            obtain ⟨x3_2, x5_2, rfl, HA, HK2, HO_3, HB⟩ := hrel
            cases gk with
            | zero => exact absurd HA.out (by simp [impl_Padded.l1])
            | succ k2 =>
              have H := HA.out
              clear HA
              simp only [impl_Padded.l1] at H
              by_cases c8 : x5_2 ≥ 0
              · rw [if_pos c8] at H
                have c8b0 : decide (0 ≤ x5_2) = true := decide_eq_true c8
                clear c8
                obtain ⟨ji9, hji9⟩ : ∃ j_ : Int, (IntKind.u64.wrap (wrap64 (8 * x5_2))) = j_ := ⟨_, rfl⟩
                replace H : (if 0 ≤ (ji9) then (if x3_2.length < 140737488355328 then (impl_Padded.l1 k2 (x3_2 ++ [(shr .i64 (wrap64 (8 * (l0.length : Int))) (ji9)) % 256]) (wrap64 (8 * (l0.length : Int))) (wrap64 (x5_2 - 1))) else (none)) else (none)) = some r := by first | (rw [hji9] at H; exact H) | (simp only [hji9] at H ⊢; exact H)
                by_cases c10 : 0 ≤ (ji9)
                · rw [if_pos c10] at H
                  have c10b0 := eq_true c10
                  have c10b1 : decide (0 ≤ (ji9)) = true := decide_eq_true c10
                  clear c10
                  obtain ⟨ji11, hji11⟩ : ∃ j_ : Int, (shr .i64 (wrap64 (8 * (l0.length : Int))) (ji9)) = j_ := ⟨_, rfl⟩
                  replace H : (if x3_2.length < 140737488355328 then (impl_Padded.l1 k2 (x3_2 ++ [(ji11) % 256]) (wrap64 (8 * (l0.length : Int))) (wrap64 (x5_2 - 1))) else (none)) = some r := by first | (rw [hji11] at H; exact H) | (simp only [hji11] at H ⊢; exact H)
                  have hji11_ : ((wrap64 (8 * (l0.length : Int))) / 2 ^ min (ji9).toNat 64) = ji11 := hji11
                  have hji11z : (ji9) ≤ 64 → ((wrap64 (8 * (l0.length : Int))) / 2 ^ (ji9).toNat) = ji11 := shr_small hji11
                  by_cases c12 : x3_2.length < 140737488355328
                  · rw [if_pos c12] at H
                    have LMc12 := Aside0.mk c12
                    clear c12
                    obtain ⟨y610, hy610⟩ : ∃ y_ : List Int, y_ = (x3_2 ++ [(ji11) % 256]) := ⟨_, rfl⟩
                    replace H : (impl_Padded.l1 k2 y610 (wrap64 (8 * (l0.length : Int))) (wrap64 (x5_2 - 1))) = some r := by first | (rw [hy610]; with_reducible exact H) | (have H2_ := (Option.bind_some _ _).symm.trans H; rw [hy610]; with_reducible exact H2_) | (have H2_ := (Option.bind_some _ _).symm.trans H; with_reducible exact H2_) | with_reducible exact H | (rw [hy610]; exact H) | exact H
                    have Ny610 := Aside0.mk hy610
                    clear hy610
                    have H' := Aside0.mk H
                    clear H
                    go_wp2_with (first | ((with_reducible refine gate_builtin (b := .append) (xs := #[.tmp 25, .tmp 32]) rfl ?_); at_builtin; refine Kd.R_append (Kd.int .u8) (w0 := w) w.heap.size rfl (.tmp 25) (.tmp 32) 28 5 (.int .u8 0) 1 rfl Try.underlying28 info5 rfl (by decide) (by omega) u3 x3_2 ((ji11) % 256) [.int .u8 ((ji11) % 256)] (fun _ => True) (fun _ => False) rfl rfl ?aP (fun _ hk => hk.elim) ?aF ?aO ?aB ?aS ?aL ?_; (case aP => exact rfl); (case aB => exact (by repeat (first | (with_reducible first | exact HB.out | apply below_alloc | apply pw_below_drewN | apply below_drew1) | exact HB.out))); (case aF => exact (fun _ _ => trivial)); (case aO => exact (by (with_reducible repeat (first | apply Kd.R_alloc | apply Kd.R_drewN | apply Kd.R_drew)); exact HO_3.out)); (case aS => exact (below_size (by repeat (first | (with_reducible first | exact HB.out | apply below_alloc | apply pw_below_drewN | apply below_drew1) | exact HB.out)))); (case aL => have := LMc12.out; omega); intro v611 w13 ho hb hg hat; rw [← Ny610.out] at ho; have n0_ := Aside0.mk (hb); have n1_ := Aside0.mk (ho); clear HB; clear HO_3; have HB := n0_; have HO612 := n1_; clear n0_ n1_; clear ho hb hg hat))
                    go_roundg k2
                    case measure => have := HK1.out; have := HK2.out; omega
                    case rel => exact ⟨(y610), (wrap64 (x5_2 - 1)), (by first | rfl | (simp; done) | (simp [*]; done)), H', ⟨by have := HK1.out; have := HK2.out; omega⟩, ⟨by (with_reducible repeat (first | apply Kd.R_alloc | apply Kd.R_drewN | apply Kd.R_drew)); exact HO612.out⟩, ⟨by repeat (first | (with_reducible first | exact HB.out | apply below_alloc | apply pw_below_drewN | apply below_drew1) | exact HB.out)⟩⟩
                  · rw [if_neg c12] at H
                    exact absurd H (by simp)
                · rw [if_neg c10] at H
                  exact absurd H (by simp)
              · rw [if_neg c8] at H
                have c8b0 : decide (0 ≤ x5_2) = false := decide_eq_false c8
                clear c8
                obtain rfl := Option.some.inj H
                go_wp2
                go_ret
                exact ⟨_, by first | rfl | (simp [errW_none, errW_some] <;> rfl) | (simp [*, errW_none, errW_some] <;> rfl), by (with_reducible repeat (first | apply Kd.R_alloc | apply Kd.R_drewN | apply Kd.R_drew)); exact HO_3.out, by repeat (first | (with_reducible first | exact HB.out | apply below_alloc | apply pw_below_drewN | apply below_drew1) | exact HB.out)⟩
        · rw [if_neg c6] at H
          have c6b0 : ((Int.tmod (wrap64 ((x3_1.length : Int) + 8)) 64) == 0) = false := beq_eq_false_iff_ne.mpr c6
          have c6b1 : ((Int.tmod (wrap64 ((x3_1.length : Int) + 8)) 64) != 0) = true := bne_iff_ne.mpr c6
          by_cases c14 : x3_1.length < 140737488355328
          · rw [if_pos c14] at H
            have LMc14 := Aside0.mk c14
            clear c14
            obtain ⟨y607, hy607⟩ : ∃ y_ : List Int, y_ = (x3_1 ++ [0]) := ⟨_, rfl⟩
            replace H : (impl_Padded.l0 k1 l0 y607) = some r := by first | (rw [hy607]; with_reducible exact H) | (have H2_ := (Option.bind_some _ _).symm.trans H; rw [hy607]; with_reducible exact H2_) | (have H2_ := (Option.bind_some _ _).symm.trans H; with_reducible exact H2_) | with_reducible exact H | (rw [hy607]; exact H) | exact H
            have Ny607 := Aside0.mk hy607
            clear hy607
            have H' := Aside0.mk H
            clear H
            obtain ⟨Ao15, co15, eo15⟩ := Kd.R_slice HO_3.out
            subst eo15
            go_wp2_with (first | ((with_reducible refine gate_builtin (b := .append) (xs := #[.tmp 15, .tmp 16]) rfl ?_); at_builtin; refine Kd.R_append (Kd.int .u8) (w0 := w) w.heap.size rfl (.tmp 15) (.tmp 16) 28 5 (.int .u8 0) 1 rfl Try.underlying28 info5 rfl (by decide) (by omega) (.slice Ao15 x3_1.length co15) x3_1 0 [.int .u8 0] (fun _ => True) (fun _ => False) rfl rfl ?aP (fun _ hk => hk.elim) ?aF ?aO ?aB ?aS ?aL ?_; (case aP => exact rfl); (case aB => exact (by repeat (first | (with_reducible first | exact HB.out | apply below_alloc | apply pw_below_drewN | apply below_drew1) | exact HB.out))); (case aF => exact (fun _ _ => trivial)); (case aO => exact (by (with_reducible repeat (first | apply Kd.R_alloc | apply Kd.R_drewN | apply Kd.R_drew)); exact HO_3.out)); (case aS => exact (below_size (by repeat (first | (with_reducible first | exact HB.out | apply below_alloc | apply pw_below_drewN | apply below_drew1) | exact HB.out)))); (case aL => have := LMc14.out; omega); intro v608 w16 ho hb hg hat; rw [← Ny607.out] at ho; have n0_ := Aside0.mk (hb); have n1_ := Aside0.mk (ho); clear HB; clear HO_3; have HB := n0_; have HO609 := n1_; clear n0_ n1_; clear ho hb hg hat))
            go_roundg k1
            case measure => have := HK1.out; omega
            case rel => exact ⟨(y607), H', ⟨by have := HK1.out; omega⟩, ⟨by (with_reducible repeat (first | apply Kd.R_alloc | apply Kd.R_drewN | apply Kd.R_drew)); exact HO609.out⟩, ⟨by repeat (first | (with_reducible first | exact HB.out | apply below_alloc | apply pw_below_drewN | apply below_drew1) | exact HB.out)⟩⟩
          · rw [if_neg c14] at H
            exact absurd H (by simp)
  · rw [if_neg c3] at H
    exact absurd H (by simp)

end Go.Proofs.Ytoipfpjcpngpfaa.Q
end

section
/- Padded, the program's: the bytes, 128, noughts, and how many bits there are in eight bytes. -/
namespace Go.Proofs.Ytoipfpjcpngpfaa.Q
open Go.RowKit Go.Proofs.Ytoipfpjcpngpfaa.B Go.Proofs.YtoipfpjcpngpfaaW.PrintWords Go.Proofs.YtoipfpjcpngpfaaW.PrintMore

def zerosOf (n : Nat) : Nat := (119 - n % 64) % 64
def tailBytes (n : Int) : Nat → List Int
  | 0 => []
  | j + 1 => (shr .i64 n (8 * (j : Int))) % 256 :: tailBytes n j
def len8 (n : Int) : List Int := tailBytes n 8
theorem tailBytes_length (n : Int) (j : Nat) : (tailBytes n j).length = j := by
  induction j with
  | zero => rfl
  | succ j ih => simp [tailBytes, ih]
theorem tailBytes_bytes (n : Int) (j : Nat) : ∀ x ∈ tailBytes n j, 0 ≤ x ∧ x ≤ 255 := by
  induction j with
  | zero => simp [tailBytes]
  | succ j ih =>
    intro x hx
    rcases List.mem_cons.1 hx with rfl | hx
    · omega
    · exact ih x hx
def padL (l : List Int) : List Int := l ++ [128] ++ List.replicate (zerosOf l.length) 0 ++ len8 (8 * l.length)
theorem padL_length (l : List Int) : (padL l).length % 64 = 0 := by
  simp [padL, len8, tailBytes_length, zerosOf]
  omega
theorem padL_bytes (l : List Int) (h : ∀ x ∈ l, 0 ≤ x ∧ x ≤ 255) : ∀ x ∈ padL l, 0 ≤ x ∧ x ≤ 255 := by
  intro x hx
  simp only [padL, len8, List.mem_append, List.mem_replicate] at hx
  rcases hx with ((hx | hx) | hx) | hx
  · exact h x hx
  · simp at hx
    omega
  · omega
  · exact tailBytes_bytes _ _ x hx
theorem padL_size (l : List Int) : (padL l).length ≤ l.length + 72 := by
  simp [padL, len8, tailBytes_length, zerosOf]
  omega

theorem u64_eight (j : Nat) (hj : j ≤ 7) : IntKind.u64.wrap (wrap64 (8 * (j : Int))) = 8 * (j : Int) := by
  rw [w64 (by omega) (by omega), IntWalk.u64_in _ ⟨by omega, by omega⟩]

theorem padded_l1 (n : Int) : ∀ (j : Nat) (acc : List Int), j ≤ 8 → acc.length + j ≤ 140737488355320 → Ev (fun k => impl_Padded.l1 k acc n ((j : Int) - 1)) (acc ++ tailBytes n j) := by
  intro j
  induction j with
  | zero =>
    intro acc _ _
    refine Ev.step (f := fun _ => some acc) (fun k => ?_) (Ev.one (Ev.now _) (by simp [tailBytes]))
    simp only [impl_Padded.l1]
    rw [if_neg (by omega)]
  | succ j ih =>
    intro acc h1 h2
    refine Ev.step (fun k => ?_) (Ev.one (ih (acc ++ [(shr .i64 n (8 * (j : Int))) % 256]) (by omega) (by simp; omega)) (by simp [tailBytes]))
    simp only [impl_Padded.l1]
    have hj : (((j + 1 : Nat) : Int) - 1) = (j : Int) := by omega
    rw [hj, if_pos (by omega), u64_eight j (by omega), if_pos (by omega), if_pos (by omega), w64 (by omega) (by omega)]

theorem padded_l0 (l : List Int) (hl : l.length ≤ 1099511627776) : ∀ (d i : Nat) (acc : List Int), i + d = zerosOf l.length → acc = l ++ [128] ++ List.replicate i 0 → Ev (fun k => impl_Padded.l0 k l acc) (padL l) := by
  intro d
  induction d with
  | zero =>
    intro i acc hi ha
    have hlen : acc.length = l.length + 1 + i := by rw [ha]; simp; omega
    have hz : zerosOf l.length = (119 - l.length % 64) % 64 := rfl
    refine Ev.step (fun k => ?_) (Ev.one (padded_l1 (8 * (l.length : Int)) 8 acc (by omega) (by omega)) ?_)
    · simp only [impl_Padded.l0]
      rw [w64 (by omega) (by omega), Int.tmod_eq_emod_of_nonneg (by omega), if_pos (by omega), w64 (by omega) (by omega)]
      rfl
    · rw [ha, show i = zerosOf l.length from by omega]
      rfl
  | succ d ih =>
    intro i acc hi ha
    have hlen : acc.length = l.length + 1 + i := by rw [ha]; simp; omega
    have hz : zerosOf l.length = (119 - l.length % 64) % 64 := rfl
    refine Ev.step (fun k => ?_) (ih (i + 1) (acc ++ [0]) (by omega) (by rw [ha, List.append_assoc (l ++ [128])]; congr 1; rw [List.replicate_succ']))
    simp only [impl_Padded.l0]
    rw [w64 (by omega) (by omega), Int.tmod_eq_emod_of_nonneg (by omega), if_neg (by omega), if_pos (by omega)]

theorem impl_Padded_ev (l : List Int) (hl : l.length ≤ 1099511627776) : Ev (fun k => impl_Padded.f k l) (padL l) := by
  refine Ev.congr (fun k => ?_) (padded_l0 l hl (zerosOf l.length) 0 (l ++ [128]) (by omega) (by simp))
  unfold impl_Padded.f slices_Clone_byte_byte.f
  rw [if_pos (by omega)]
  simp only [Option.bind_some]
  rw [if_pos (by omega)]
end Go.Proofs.Ytoipfpjcpngpfaa.Q
end

section
/- impl.rounds, and what impl.Digest comes to: the fold of the turned blocks of the padded bytes, as 32 bytes. -/
namespace Go.Proofs.Ytoipfpjcpngpfaa.Q
open Go.RowKit Go.Shelf Go.Proofs.YtoipfpjcpngpfaaW.PrintWords Go.Proofs.YtoipfpjcpngpfaaW.PrintLast Go.Proofs.YtoipfpjcpngpfaaW.PrintMore
set_option linter.unusedVariables false
set_option linter.unusedSimpArgs false

def shaK : List Int := [1116352408, 1899447441, 3049323471, 3921009573, 961987163, 1508970993, 2453635748, 2870763221, 3624381080, 310598401, 607225278, 1426881987, 1925078388, 2162078206, 2614888103, 3248222580, 3835390401, 4022224774, 264347078, 604807628, 770255983, 1249150122, 1555081692, 1996064986, 2554220882, 2821834349, 2952996808, 3210313671, 3336571891, 3584528711, 113926993, 338241895, 666307205, 773529912, 1294757372, 1396182291, 1695183700, 1986661051, 2177026350, 2456956037, 2730485921, 2820302411, 3259730800, 3345764771, 3516065817, 3600352804, 4094571909, 275423344, 430227734, 506948616, 659060556, 883997877, 958139571, 1322822218, 1537002063, 1747873779, 1955562222, 2024104815, 2227730452, 2361852424, 2428436474, 2756734187, 3204031479, 3329325298]
def shaH : List Int := [1779033703, 3144134277, 1013904242, 2773480762, 1359893119, 2600822924, 528734635, 1541459225]
def blockAt (p : List Int) (x : Nat) : List Int := (p.drop x).take 64
def foldAt (p : List Int) (xs : List Nat) : List Int := xs.foldl (fun h x => turned shaK (blockAt p x) h) shaH
theorem foldAt_snoc (p : List Int) (xs : List Nat) (x : Nat) : foldAt p (xs ++ [x]) = turned shaK (blockAt p x) (foldAt p xs) := by simp [foldAt]
theorem turned_length (ks bs hs : List Int) : (turned ks bs hs).length = hs.length := addAt_length _ _ _
theorem foldAt_length (p : List Int) (xs : List Nat) : (foldAt p xs).length = 8 := by
  have main : ∀ (xs : List Nat) (h : List Int), h.length = 8 → (xs.foldl (fun h x => turned shaK (blockAt p x) h) h).length = 8 := by
    intro xs
    induction xs with
    | nil => exact fun h hh => hh
    | cons x xs ih => exact fun h hh => ih _ (by rw [turned_length]; exact hh)
  exact main xs shaH rfl
def wordBytes (x : Int) : List Int := [x / 16777216 % 256, x / 65536 % 256, x / 256 % 256, x % 256]
def outBytes (hs : List Int) (k : Nat) : List Int := (hs.take k).flatMap wordBytes
def shaBytes (l : List Int) : List Int := outBytes (foldAt (padL l) (starts ((padL l).length / 64))) 8
def sha (l : List Int) : ByteArray := strOfNums (shaBytes l)
def impl_Digest.f (l : List Int) : Option (ByteArray) := if l.length ≤ 1099511627776 then some (sha l) else none

set_option maxHeartbeats 2000000 in
set_option maxRecDepth 100000 in
theorem rounds_calls (w : World) : Calls Try.prog 154 #[] w fun e w' => ∃ g, e = .returned (.pointer (some ⟨g, 0, none⟩)) ∧ w.heap.size ≤ g ∧ w'.heap[g]? = some (.cells (arrU shaK) 183 (0, 0)) ∧ Below w.heap.size w w' := by
  go_enter Try.func154, Try.ntmps154
  go_wp2
  go_ret
  exact ⟨_, rfl, Nat.le_refl _, blk_new w _, (Below.refl _ _).alloc (Nat.le_refl _) _⟩

theorem sub_reads {w : World} {b n : Nat} {xs : List Int} (h : Kd.C (Kd.int .u8) w (some ⟨b, 0, none⟩) n xs) (x : Nat) (hx : x + 64 ≤ n) : Kd.C (Kd.int .u8) w (some ⟨b, 0 + x, none⟩) (blockAt xs x).length (blockAt xs x) ∧ (blockAt xs x).length = 64 := by
  have hl := h.1
  have h64 : (blockAt xs x).length = 64 := by simp [blockAt]; omega
  obtain ⟨ad, he, hby⟩ := bytes_at h (by omega)
  obtain rfl := (Option.some.inj he).symm
  refine ⟨⟨rfl, by omega, fun _ => ⟨_, rfl, fun j p hj => ⟨[.int .u8 p], rfl, rfl, fun i u hu => ?_⟩⟩⟩, h64⟩
  have hj64 : j < 64 := by rw [← h64]; exact (List.getElem?_eq_some_iff.1 hj).1
  have hi0 : i = 0 := by
    rcases Nat.eq_zero_or_pos i with hz | hz
    · exact hz
    · rw [List.getElem?_eq_none (by simp; omega)] at hu
      cases hu
  subst hi0
  have hu2 : u = .int .u8 p := by simpa using hu.symm
  have hp : xs[x + j]? = some p := by
    rw [blockAt, List.getElem?_take, if_pos hj64, List.getElem?_drop] at hj
    exact hj
  have := hby.2 (x + j) (by omega)
  rw [hu2]
  have hrd : rd xs ((x + j : Nat) : Int) = p := by unfold rd; rw [Int.toNat_natCast]; simp [List.getD_eq_getElem?_getD, hp]
  rw [hrd] at this
  have haddr : (⟨b, 0 + x, none⟩ : Addr).add (j * (Kd.int .u8).sz + 0) = (⟨b, 0, none⟩ : Addr).add (x + j) := by
    rw [show (Kd.int .u8).sz = 1 from rfl, Nat.mul_one, Nat.add_zero]
    unfold Addr.add
    by_cases hj0 : j = 0
    · by_cases hxx : x = 0
      · simp [hj0, hxx]
      · simp [hj0, hxx]
    · simp [hj0]
  rw [haddr]
  exact this
end Go.Proofs.Ytoipfpjcpngpfaa.Q
end

section
-- Written by a program of this session (wip/tools/pp.sh) over the print of the kit.
namespace Go.Proofs.Ytoipfpjcpngpfaa.Q
open Go.RowKit Go.Proofs.YtoipfpjcpngpfaaW.PrintWords Go.Proofs.YtoipfpjcpngpfaaW.PrintLast Go.Proofs.YtoipfpjcpngpfaaW.PrintMore
attribute [local go_sem] max2_int min2_int max_two min_two max_three min_three max_four min_four   -- for this text's walks alone
set_option linter.unusedVariables false
set_option linter.unusedSimpArgs false

/-! ### spec_Padded: function 158 -/
mutual
def spec_Padded.l0 : Nat → List Int → List Int → Option (List Int)
  | 0, _, _ => none
  | k + 1, x0, x3 => if ((x3.length : Int) % 64) = 56 then (spec_Padded.l1 k x3 (wrap64 ((x0.length : Int) * 8)) 56) else (if x3.length < 140737488355328 then (spec_Padded.l0 k x0 (x3 ++ [0])) else (none))
def spec_Padded.l1 : Nat → List Int → Int → Int → Option (List Int)
  | 0, _, _, _ => none
  | k + 1, x3, x4, x5 => if x5 ≥ 0 then (if 0 ≤ (IntKind.u64.wrap (x5)) then (if x3.length < 140737488355328 then (spec_Padded.l1 k (x3 ++ [(shr .i64 x4 (IntKind.u64.wrap (x5))) % 256]) x4 (wrap64 (x5 - 8))) else (none)) else (none)) else (some x3)
end
def spec_Padded.f (k : Nat) (l0 : List Int) : Option (List Int) := (some (([] : List Int) : List Int)).bind fun y601 => (if y601.length + l0.length < 140737488355328 then ((some (y601 ++ l0 : List Int)).bind fun y604 => (if y604.length < 140737488355328 then (spec_Padded.l0 k l0 (y604 ++ [128])) else (none))) else (none))
theorem spec_Padded.mono_l : ∀ k, (∀ y0 y1, LeO (spec_Padded.l0 k y0 y1) (spec_Padded.l0 (k + 1) y0 y1)) ∧ (∀ y0 y1 y2, LeO (spec_Padded.l1 k y0 y1 y2) (spec_Padded.l1 (k + 1) y0 y1 y2))
  | 0 => ⟨fun _ _ r h => by simp [spec_Padded.l0] at h, fun _ _ _ r h => by simp [spec_Padded.l1] at h⟩
  | k + 1 => by
    obtain ⟨ih0, ih1⟩ := spec_Padded.mono_l k
    refine ⟨?_, ?_⟩
    · intro y0 y1
      unfold spec_Padded.l0
      repeat' first
      | (with_reducible exact ih0 _ _)
      | (with_reducible exact ih1 _ _ _)
      | (with_reducible exact LeO.refl _)
      | (with_reducible exact LeO.none _)
      | (with_reducible refine LeO.ite ?_ ?_)
      | (with_reducible refine LeO.bind ?_ (fun _ => ?_))
      | exact ih0 _ _
      | exact ih1 _ _ _
      | exact LeO.none _
      | refine LeO.ite ?_ ?_
      | refine LeO.bind ?_ (fun _ => ?_)
    · intro y0 y1 y2
      unfold spec_Padded.l1
      repeat' first
      | (with_reducible exact ih0 _ _)
      | (with_reducible exact ih1 _ _ _)
      | (with_reducible exact LeO.refl _)
      | (with_reducible exact LeO.none _)
      | (with_reducible refine LeO.ite ?_ ?_)
      | (with_reducible refine LeO.bind ?_ (fun _ => ?_))
      | exact ih0 _ _
      | exact ih1 _ _ _
      | exact LeO.none _
      | refine LeO.ite ?_ ?_
      | refine LeO.bind ?_ (fun _ => ?_)
theorem spec_Padded.mono : ∀ a0 k, LeO (spec_Padded.f k a0) (spec_Padded.f (k + 1) a0) := by
  intro a0 k
  obtain ⟨ih0, ih1⟩ := spec_Padded.mono_l k
  unfold spec_Padded.f
  repeat' first
      | (with_reducible exact ih0 _ _)
      | (with_reducible exact ih1 _ _ _)
      | (with_reducible exact LeO.refl _)
      | (with_reducible exact LeO.none _)
      | (with_reducible refine LeO.ite ?_ ?_)
      | (with_reducible refine LeO.bind ?_ (fun _ => ?_))
      | exact ih0 _ _
      | exact ih1 _ _ _
      | exact LeO.none _
      | refine LeO.ite ?_ ?_
      | refine LeO.bind ?_ (fun _ => ?_)
set_option maxHeartbeats 8000000 in
set_option maxRecDepth 100000 in
theorem spec_Padded.calls (k : Nat) (A0 : Option Addr) (c0 : Nat) (l0 : List Int) (r : List Int) (w : World) (hr0 : Kd.C (Kd.int .u8) w A0 l0.length l0) (hc0 : l0.length ≤ c0) (h : spec_Padded.f k l0 = some r) :
    Calls Try.prog 158 #[.slice A0 l0.length c0] w fun e w' => ∃ v0_ : Value, e = .returned (v0_) ∧ Kd.R (Kd.int .u8) 5 w' w.heap.size (fun _ => True) v0_ r ∧ Below w.heap.size w w' := by
  have HR0 := Aside0.mk hr0
  have HC0 := Aside0.mk hc0
  clear hr0 hc0
  have HB := Aside0.mk (Below.refl w.heap.size w)
  have H : ((some (([] : List Int) : List Int)).bind fun y601 => (if y601.length + l0.length < 140737488355328 then ((some (y601 ++ l0 : List Int)).bind fun y604 => (if y604.length < 140737488355328 then (spec_Padded.l0 k l0 (y604 ++ [128])) else (none))) else (none))) = some r := h
  clear h
  obtain ⟨y601, hy601⟩ : ∃ y_ : List Int, y_ = (([] : List Int)) := ⟨_, rfl⟩
  replace H : (if y601.length + l0.length < 140737488355328 then ((some (y601 ++ l0 : List Int)).bind fun y604 => (if y604.length < 140737488355328 then (spec_Padded.l0 k l0 (y604 ++ [128])) else (none))) else (none)) = some r := by first | (rw [hy601]; with_reducible exact H) | (have H2_ := (Option.bind_some _ _).symm.trans H; rw [hy601]; with_reducible exact H2_) | (have H2_ := (Option.bind_some _ _).symm.trans H; with_reducible exact H2_) | with_reducible exact H | (rw [hy601]; exact H) | exact H
  have Ny601 := Aside0.mk hy601
  clear hy601
  by_cases c2 : y601.length + l0.length < 140737488355328
  · rw [if_pos c2] at H
    have LMc2 := Aside0.mk c2
    clear c2
    obtain ⟨y604, hy604⟩ : ∃ y_ : List Int, y_ = (y601 ++ l0) := ⟨_, rfl⟩
    replace H : (if y604.length < 140737488355328 then (spec_Padded.l0 k l0 (y604 ++ [128])) else (none)) = some r := by first | (rw [hy604]; with_reducible exact H) | (have H2_ := (Option.bind_some _ _).symm.trans H; rw [hy604]; with_reducible exact H2_) | (have H2_ := (Option.bind_some _ _).symm.trans H; with_reducible exact H2_) | with_reducible exact H | (rw [hy604]; exact H) | exact H
    have Ny604 := Aside0.mk hy604
    clear hy604
    by_cases c3 : y604.length < 140737488355328
    · rw [if_pos c3] at H
      have LMc3 := Aside0.mk c3
      clear c3
      obtain ⟨y607, hy607⟩ : ∃ y_ : List Int, y_ = (y604 ++ [128]) := ⟨_, rfl⟩
      replace H : (spec_Padded.l0 k l0 y607) = some r := by first | (rw [hy607]; with_reducible exact H) | (have H2_ := (Option.bind_some _ _).symm.trans H; rw [hy607]; with_reducible exact H2_) | (have H2_ := (Option.bind_some _ _).symm.trans H; with_reducible exact H2_) | with_reducible exact H | (rw [hy607]; exact H) | exact H
      have Ny607 := Aside0.mk hy607
      clear hy607
      have H' := Aside0.mk H
      clear H
      go_enter Try.func158, Try.ntmps158
      go_wp2_with (first | ((with_reducible refine gate_dst (N := 6) rfl ?_); refine Kd.R_lit (Kd.int .u8) _ 5 ?hg (N := 6) ?hd (xs := ([] : List Int)) (inner := []) (ok := fun _ => True) (okp := fun _ => True) ?hr ?hp (fun _ hk => hk) trivial (Below.refl _ _) (Nat.le_refl _) (by simp) ?_; (case hd => rfl); (case hg => rfl); (case hr => first | (go_simp; done) | (go_simp; rfl)); (case hp => exact (Reps.none _ _)); intro v602 w4 ho5 hb hg_ hnew_; clear hg_ hnew_; (first | rw [← Ny601.out] at ho5 | (simp only [Int.reduceToNat] at ho5; rw [← Ny601.out] at ho5)); have n0_ := Aside0.mk (Kd.R_lower ho5 (below_size (by repeat (first | (with_reducible first | exact HB.out | apply below_alloc | apply pw_below_drewN | apply below_drew1) | exact HB.out)))); have n1_ := Aside0.mk (below_step (by repeat (first | (with_reducible first | exact HB.out | apply below_alloc | apply pw_below_drewN | apply below_drew1) | exact HB.out)) hb); clear HB; have HO603 := n0_; have HB := n1_; clear n0_ n1_; clear hb ho5) | ((with_reducible refine gate_builtin (b := .append) (xs := #[.tmp 6, .tmp 7]) rfl ?_); at_builtin; refine Kd.R_append_rows (Kd.int .u8) (w0 := w) w.heap.size rfl (.tmp 6) (.tmp 7) 28 5 (.int .u8 0) 1 rfl Try.underlying28 info5 rfl (by decide) (by omega) v602 y601 l0 _ _ _ (fun _ => True) (fun _ => False) rfl rfl ?aO ?aR (fun _ _ h => h) (fun _ h => h.elim) ?aF ?aB ?aS ?aL ?_; (case aR => repeat (first | exact (Kd.C_below HR0.out HB.out) | (with_reducible refine Kd.C_alloc ?_ _) | (with_reducible refine Kd.C_drewN ?_ _) | (with_reducible refine Kd.C_drew ?_))); (case aB => exact (by repeat (first | (with_reducible first | exact HB.out | apply below_alloc | apply pw_below_drewN | apply below_drew1) | exact HB.out))); (case aF => exact (fun _ _ => trivial)); (case aO => exact (by (with_reducible repeat (first | apply Kd.R_alloc | apply Kd.R_drewN | apply Kd.R_drew)); exact HO603.out)); (case aS => exact (below_size (by repeat (first | (with_reducible first | exact HB.out | apply below_alloc | apply pw_below_drewN | apply below_drew1) | exact HB.out)))); (case aL => have := LMc2.out; omega); intro v605 w6 ho hb hg hat; rw [← Ny604.out] at ho; have n0_ := Aside0.mk (hb); have n1_ := Aside0.mk (ho); clear HB; clear HO603; have HB := n0_; have HO606 := n1_; clear n0_ n1_; clear ho hb hg hat) | ((with_reducible refine gate_builtin (b := .append) (xs := #[.tmp 8, .tmp 9]) rfl ?_); at_builtin; refine Kd.R_append (Kd.int .u8) (w0 := w) w.heap.size rfl (.tmp 8) (.tmp 9) 28 5 (.int .u8 0) 1 rfl Try.underlying28 info5 rfl (by decide) (by omega) v605 y604 128 [.int .u8 128] (fun _ => True) (fun _ => False) rfl rfl ?aP (fun _ hk => hk.elim) ?aF ?aO ?aB ?aS ?aL ?_; (case aP => exact rfl); (case aB => exact (by repeat (first | (with_reducible first | exact HB.out | apply below_alloc | apply pw_below_drewN | apply below_drew1) | exact HB.out))); (case aF => exact (fun _ _ => trivial)); (case aO => exact (by (with_reducible repeat (first | apply Kd.R_alloc | apply Kd.R_drewN | apply Kd.R_drew)); exact HO606.out)); (case aS => exact (below_size (by repeat (first | (with_reducible first | exact HB.out | apply below_alloc | apply pw_below_drewN | apply below_drew1) | exact HB.out)))); (case aL => have := LMc3.out; omega); intro v608 w7 ho hb hg hat; rw [← Ny607.out] at ho; have n0_ := Aside0.mk (hb); have n1_ := Aside0.mk (ho); clear HB; clear HO606; have HB := n0_; have HO609 := n1_; clear n0_ n1_; clear ho hb hg hat))
      go_loopg [3] k (fun kq v3 w' => ∃ (x3_1 : List Int), Aside0 (spec_Padded.l0 kq l0 x3_1 = some r) ∧ Aside0 (kq ≤ k) ∧ Aside0 (Kd.R (Kd.int .u8) 5 w' w.heap.size (fun _ => True) v3 x3_1) ∧ Aside0 (Below w.heap.size w w'))
      case atStart => exact ⟨(y607), H', ⟨Nat.le_refl _⟩, ⟨by (with_reducible repeat (first | apply Kd.R_alloc | apply Kd.R_drewN | apply Kd.R_drew)); exact HO609.out⟩, ⟨by repeat (first | (with_reducible first | exact HB.out | apply below_alloc | apply pw_below_drewN | apply below_drew1) | exact HB.out)⟩⟩
      case round =>
        clear H'
        try clear c1
        try clear c2
        try clear p2
        try clear c3
        obtain ⟨x3_1, HA, HK1, HO_3, HB⟩ := hrel
        cases gk with
        | zero => exact absurd HA.out (by simp [spec_Padded.l0])
        | succ k1 =>
          have H := HA.out
          clear HA
          simp only [spec_Padded.l0] at H
          by_cases c8 : ((x3_1.length : Int) % 64) = 56
          · rw [if_pos c8] at H
            have c8b0 : (((x3_1.length : Int) % 64) == 56) = true := beq_iff_eq.mpr c8
            have c8b1 : (((x3_1.length : Int) % 64) != 56) = false := bne_eq_false_iff_eq.mpr c8
            clear c8
            have H' := Aside0.mk H
            clear H
            obtain ⟨Ao9, co9, eo9⟩ := Kd.R_slice HO_3.out
            subst eo9
            go_wp2
            go_loopg [3, 5] k1 (fun kq v3 v5 w' => ∃ (x3_2 : List Int) (x5_2 : Int), v5 = .int .i64 x5_2 ∧ Aside0 (spec_Padded.l1 kq x3_2 (wrap64 ((l0.length : Int) * 8)) x5_2 = some r) ∧ Aside0 (kq ≤ k1) ∧ Aside0 (Kd.R (Kd.int .u8) 5 w' w.heap.size (fun _ => True) v3 x3_2) ∧ Aside0 (Below w.heap.size w w'))
            case atStart => exact ⟨(x3_1), (56), (by first | rfl | (simp; done) | (simp [*]; done)), H', ⟨Nat.le_refl _⟩, ⟨by (with_reducible repeat (first | apply Kd.R_alloc | apply Kd.R_drewN | apply Kd.R_drew)); exact HO_3.out⟩, ⟨by repeat (first | (with_reducible first | exact HB.out | apply below_alloc | apply pw_below_drewN | apply below_drew1) | exact HB.out)⟩⟩
            case round =>
              clear H'
              try clear c1
              try clear c2
              try clear p2
              try clear c3
              try clear p6
              try clear c8
              try clear c8b0
              try clear c8b1
              try clear p2
              obtain ⟨x3_2, x5_2, rfl, HA, HK2, HO_3, HB⟩ := hrel
              cases gk with
              | zero => exact absurd HA.out (by simp [spec_Padded.l1])
              | succ k2 =>
                have H := HA.out
                clear HA
                simp only [spec_Padded.l1] at H
                by_cases c10 : x5_2 ≥ 0
                · rw [if_pos c10] at H
                  have c10b0 : decide (0 ≤ x5_2) = true := decide_eq_true c10
                  clear c10
                  obtain ⟨ji11, hji11⟩ : ∃ j_ : Int, (IntKind.u64.wrap (x5_2)) = j_ := ⟨_, rfl⟩
                  replace H : (if 0 ≤ (ji11) then (if x3_2.length < 140737488355328 then (spec_Padded.l1 k2 (x3_2 ++ [(shr .i64 (wrap64 ((l0.length : Int) * 8)) (ji11)) % 256]) (wrap64 ((l0.length : Int) * 8)) (wrap64 (x5_2 - 8))) else (none)) else (none)) = some r := by first | (rw [hji11] at H; exact H) | (simp only [hji11] at H ⊢; exact H)
                  by_cases c12 : 0 ≤ (ji11)
                  · rw [if_pos c12] at H
                    have c12b0 := eq_true c12
                    have c12b1 : decide (0 ≤ (ji11)) = true := decide_eq_true c12
                    clear c12
                    obtain ⟨ji13, hji13⟩ : ∃ j_ : Int, (shr .i64 (wrap64 ((l0.length : Int) * 8)) (ji11)) = j_ := ⟨_, rfl⟩
                    replace H : (if x3_2.length < 140737488355328 then (spec_Padded.l1 k2 (x3_2 ++ [(ji13) % 256]) (wrap64 ((l0.length : Int) * 8)) (wrap64 (x5_2 - 8))) else (none)) = some r := by first | (rw [hji13] at H; exact H) | (simp only [hji13] at H ⊢; exact H)
                    have hji13_ : ((wrap64 ((l0.length : Int) * 8)) / 2 ^ min (ji11).toNat 64) = ji13 := hji13
                    have hji13z : (ji11) ≤ 64 → ((wrap64 ((l0.length : Int) * 8)) / 2 ^ (ji11).toNat) = ji13 := shr_small hji13
                    by_cases c14 : x3_2.length < 140737488355328
                    · rw [if_pos c14] at H
                      have LMc14 := Aside0.mk c14
                      clear c14
                      obtain ⟨y613, hy613⟩ : ∃ y_ : List Int, y_ = (x3_2 ++ [(ji13) % 256]) := ⟨_, rfl⟩
                      replace H : (spec_Padded.l1 k2 y613 (wrap64 ((l0.length : Int) * 8)) (wrap64 (x5_2 - 8))) = some r := by first | (rw [hy613]; with_reducible exact H) | (have H2_ := (Option.bind_some _ _).symm.trans H; rw [hy613]; with_reducible exact H2_) | (have H2_ := (Option.bind_some _ _).symm.trans H; with_reducible exact H2_) | with_reducible exact H | (rw [hy613]; exact H) | exact H
                      have Ny613 := Aside0.mk hy613
                      clear hy613
                      have H' := Aside0.mk H
                      clear H
                      go_wp2_with (first | ((with_reducible refine gate_builtin (b := .append) (xs := #[.tmp 25, .tmp 31]) rfl ?_); at_builtin; refine Kd.R_append (Kd.int .u8) (w0 := w) w.heap.size rfl (.tmp 25) (.tmp 31) 28 5 (.int .u8 0) 1 rfl Try.underlying28 info5 rfl (by decide) (by omega) u3 x3_2 ((ji13) % 256) [.int .u8 ((ji13) % 256)] (fun _ => True) (fun _ => False) rfl rfl ?aP (fun _ hk => hk.elim) ?aF ?aO ?aB ?aS ?aL ?_; (case aP => exact rfl); (case aB => exact (by repeat (first | (with_reducible first | exact HB.out | apply below_alloc | apply pw_below_drewN | apply below_drew1) | exact HB.out))); (case aF => exact (fun _ _ => trivial)); (case aO => exact (by (with_reducible repeat (first | apply Kd.R_alloc | apply Kd.R_drewN | apply Kd.R_drew)); exact HO_3.out)); (case aS => exact (below_size (by repeat (first | (with_reducible first | exact HB.out | apply below_alloc | apply pw_below_drewN | apply below_drew1) | exact HB.out)))); (case aL => have := LMc14.out; omega); intro v614 w15 ho hb hg hat; rw [← Ny613.out] at ho; have n0_ := Aside0.mk (hb); have n1_ := Aside0.mk (ho); clear HB; clear HO_3; have HB := n0_; have HO615 := n1_; clear n0_ n1_; clear ho hb hg hat))
                      go_roundg k2
                      case measure => have := HK1.out; have := HK2.out; omega
                      case rel => exact ⟨(y613), (wrap64 (x5_2 - 8)), (by first | rfl | (simp; done) | (simp [*]; done)), H', ⟨by have := HK1.out; have := HK2.out; omega⟩, ⟨by (with_reducible repeat (first | apply Kd.R_alloc | apply Kd.R_drewN | apply Kd.R_drew)); exact HO615.out⟩, ⟨by repeat (first | (with_reducible first | exact HB.out | apply below_alloc | apply pw_below_drewN | apply below_drew1) | exact HB.out)⟩⟩
                    · rw [if_neg c14] at H
                      exact absurd H (by simp)
                  · rw [if_neg c12] at H
                    exact absurd H (by simp)
                · rw [if_neg c10] at H
                  have c10b0 : decide (0 ≤ x5_2) = false := decide_eq_false c10
                  clear c10
                  obtain rfl := Option.some.inj H
                  go_wp2
                  go_ret
                  exact ⟨_, by first | rfl | (simp [errW_none, errW_some] <;> rfl) | (simp [*, errW_none, errW_some] <;> rfl), by (with_reducible repeat (first | apply Kd.R_alloc | apply Kd.R_drewN | apply Kd.R_drew)); exact HO_3.out, by repeat (first | (with_reducible first | exact HB.out | apply below_alloc | apply pw_below_drewN | apply below_drew1) | exact HB.out)⟩
          · rw [if_neg c8] at H
            have c8b0 : (((x3_1.length : Int) % 64) == 56) = false := beq_eq_false_iff_ne.mpr c8
            have c8b1 : (((x3_1.length : Int) % 64) != 56) = true := bne_iff_ne.mpr c8
            by_cases c16 : x3_1.length < 140737488355328
            · rw [if_pos c16] at H
              have LMc16 := Aside0.mk c16
              clear c16
              obtain ⟨y610, hy610⟩ : ∃ y_ : List Int, y_ = (x3_1 ++ [0]) := ⟨_, rfl⟩
              replace H : (spec_Padded.l0 k1 l0 y610) = some r := by first | (rw [hy610]; with_reducible exact H) | (have H2_ := (Option.bind_some _ _).symm.trans H; rw [hy610]; with_reducible exact H2_) | (have H2_ := (Option.bind_some _ _).symm.trans H; with_reducible exact H2_) | with_reducible exact H | (rw [hy610]; exact H) | exact H
              have Ny610 := Aside0.mk hy610
              clear hy610
              have H' := Aside0.mk H
              clear H
              obtain ⟨Ao17, co17, eo17⟩ := Kd.R_slice HO_3.out
              subst eo17
              go_wp2_with (first | ((with_reducible refine gate_builtin (b := .append) (xs := #[.tmp 15, .tmp 16]) rfl ?_); at_builtin; refine Kd.R_append (Kd.int .u8) (w0 := w) w.heap.size rfl (.tmp 15) (.tmp 16) 28 5 (.int .u8 0) 1 rfl Try.underlying28 info5 rfl (by decide) (by omega) (.slice Ao17 x3_1.length co17) x3_1 0 [.int .u8 0] (fun _ => True) (fun _ => False) rfl rfl ?aP (fun _ hk => hk.elim) ?aF ?aO ?aB ?aS ?aL ?_; (case aP => exact rfl); (case aB => exact (by repeat (first | (with_reducible first | exact HB.out | apply below_alloc | apply pw_below_drewN | apply below_drew1) | exact HB.out))); (case aF => exact (fun _ _ => trivial)); (case aO => exact (by (with_reducible repeat (first | apply Kd.R_alloc | apply Kd.R_drewN | apply Kd.R_drew)); exact HO_3.out)); (case aS => exact (below_size (by repeat (first | (with_reducible first | exact HB.out | apply below_alloc | apply pw_below_drewN | apply below_drew1) | exact HB.out)))); (case aL => have := LMc16.out; omega); intro v611 w18 ho hb hg hat; rw [← Ny610.out] at ho; have n0_ := Aside0.mk (hb); have n1_ := Aside0.mk (ho); clear HB; clear HO_3; have HB := n0_; have HO612 := n1_; clear n0_ n1_; clear ho hb hg hat))
              go_roundg k1
              case measure => have := HK1.out; omega
              case rel => exact ⟨(y610), H', ⟨by have := HK1.out; omega⟩, ⟨by (with_reducible repeat (first | apply Kd.R_alloc | apply Kd.R_drewN | apply Kd.R_drew)); exact HO612.out⟩, ⟨by repeat (first | (with_reducible first | exact HB.out | apply below_alloc | apply pw_below_drewN | apply below_drew1) | exact HB.out)⟩⟩
            · rw [if_neg c16] at H
              exact absurd H (by simp)
    · rw [if_neg c3] at H
      exact absurd H (by simp)
  · rw [if_neg c2] at H
    exact absurd H (by simp)

end Go.Proofs.Ytoipfpjcpngpfaa.Q
end

section
-- Written by a program of this session (wip/tools/pp.sh) over the print of the kit.
namespace Go.Proofs.Ytoipfpjcpngpfaa.Q
open Go.RowKit Go.Proofs.YtoipfpjcpngpfaaW.PrintWords Go.Proofs.YtoipfpjcpngpfaaW.PrintLast Go.Proofs.YtoipfpjcpngpfaaW.PrintMore
attribute [local go_sem] max2_int min2_int max_two min_two max_three min_three max_four min_four   -- for this text's walks alone
set_option linter.unusedVariables false
set_option linter.unusedSimpArgs false

/-! ### spec_l2K: function 159 -/
def spec_l2K.f  : Option (List Int) := some (([1116352408, 1899447441, 3049323471, 3921009573, 961987163, 1508970993, 2453635748, 2870763221, 3624381080, 310598401, 607225278, 1426881987, 1925078388, 2162078206, 2614888103, 3248222580, 3835390401, 4022224774, 264347078, 604807628, 770255983, 1249150122, 1555081692, 1996064986, 2554220882, 2821834349, 2952996808, 3210313671, 3336571891, 3584528711, 113926993, 338241895, 666307205, 773529912, 1294757372, 1396182291, 1695183700, 1986661051, 2177026350, 2456956037, 2730485921, 2820302411, 3259730800, 3345764771, 3516065817, 3600352804, 4094571909, 275423344, 430227734, 506948616, 659060556, 883997877, 958139571, 1322822218, 1537002063, 1747873779, 1955562222, 2024104815, 2227730452, 2361852424, 2428436474, 2756734187, 3204031479, 3329325298] : List Int))
set_option maxHeartbeats 8000000 in
set_option maxRecDepth 100000 in
theorem spec_l2K.calls  (r : List Int) (w : World) (h : spec_l2K.f  = some r) :
    Calls Try.prog 159 #[] w fun e w' => ∃ v0_ : Value, e = .returned (v0_) ∧ Kd.R (Kd.int .i64) 3 w' w.heap.size (fun _ => True) v0_ r ∧ Below w.heap.size w w' := by
  have HB := Aside0.mk (Below.refl w.heap.size w)
  have H : (some (([1116352408, 1899447441, 3049323471, 3921009573, 961987163, 1508970993, 2453635748, 2870763221, 3624381080, 310598401, 607225278, 1426881987, 1925078388, 2162078206, 2614888103, 3248222580, 3835390401, 4022224774, 264347078, 604807628, 770255983, 1249150122, 1555081692, 1996064986, 2554220882, 2821834349, 2952996808, 3210313671, 3336571891, 3584528711, 113926993, 338241895, 666307205, 773529912, 1294757372, 1396182291, 1695183700, 1986661051, 2177026350, 2456956037, 2730485921, 2820302411, 3259730800, 3345764771, 3516065817, 3600352804, 4094571909, 275423344, 430227734, 506948616, 659060556, 883997877, 958139571, 1322822218, 1537002063, 1747873779, 1955562222, 2024104815, 2227730452, 2361852424, 2428436474, 2756734187, 3204031479, 3329325298] : List Int))) = some r := h
  clear h
  obtain ⟨y601, hy601⟩ : ∃ y_ : List Int, y_ = (([1116352408, 1899447441, 3049323471, 3921009573, 961987163, 1508970993, 2453635748, 2870763221, 3624381080, 310598401, 607225278, 1426881987, 1925078388, 2162078206, 2614888103, 3248222580, 3835390401, 4022224774, 264347078, 604807628, 770255983, 1249150122, 1555081692, 1996064986, 2554220882, 2821834349, 2952996808, 3210313671, 3336571891, 3584528711, 113926993, 338241895, 666307205, 773529912, 1294757372, 1396182291, 1695183700, 1986661051, 2177026350, 2456956037, 2730485921, 2820302411, 3259730800, 3345764771, 3516065817, 3600352804, 4094571909, 275423344, 430227734, 506948616, 659060556, 883997877, 958139571, 1322822218, 1537002063, 1747873779, 1955562222, 2024104815, 2227730452, 2361852424, 2428436474, 2756734187, 3204031479, 3329325298] : List Int)) := ⟨_, rfl⟩
  replace H : (some y601) = some r := by first | (rw [hy601]; with_reducible exact H) | (have H2_ := (Option.bind_some _ _).symm.trans H; rw [hy601]; with_reducible exact H2_) | (have H2_ := (Option.bind_some _ _).symm.trans H; with_reducible exact H2_) | with_reducible exact H | (rw [hy601]; exact H) | exact H
  have Ny601 := Aside0.mk hy601
  clear hy601
  obtain rfl := Option.some.inj H
  go_enter Try.func159, Try.ntmps159
  go_wp2_with (first | ((with_reducible refine gate_dst (N := 1) rfl ?_); refine Kd.R_lit (Kd.int .i64) _ 3 ?hg (N := 1) ?hd (xs := ([1116352408, 1899447441, 3049323471, 3921009573, 961987163, 1508970993, 2453635748, 2870763221, 3624381080, 310598401, 607225278, 1426881987, 1925078388, 2162078206, 2614888103, 3248222580, 3835390401, 4022224774, 264347078, 604807628, 770255983, 1249150122, 1555081692, 1996064986, 2554220882, 2821834349, 2952996808, 3210313671, 3336571891, 3584528711, 113926993, 338241895, 666307205, 773529912, 1294757372, 1396182291, 1695183700, 1986661051, 2177026350, 2456956037, 2730485921, 2820302411, 3259730800, 3345764771, 3516065817, 3600352804, 4094571909, 275423344, 430227734, 506948616, 659060556, 883997877, 958139571, 1322822218, 1537002063, 1747873779, 1955562222, 2024104815, 2227730452, 2361852424, 2428436474, 2756734187, 3204031479, 3329325298] : List Int)) (inner := [.int .i64 1116352408, .int .i64 1899447441, .int .i64 3049323471, .int .i64 3921009573, .int .i64 961987163, .int .i64 1508970993, .int .i64 2453635748, .int .i64 2870763221, .int .i64 3624381080, .int .i64 310598401, .int .i64 607225278, .int .i64 1426881987, .int .i64 1925078388, .int .i64 2162078206, .int .i64 2614888103, .int .i64 3248222580, .int .i64 3835390401, .int .i64 4022224774, .int .i64 264347078, .int .i64 604807628, .int .i64 770255983, .int .i64 1249150122, .int .i64 1555081692, .int .i64 1996064986, .int .i64 2554220882, .int .i64 2821834349, .int .i64 2952996808, .int .i64 3210313671, .int .i64 3336571891, .int .i64 3584528711, .int .i64 113926993, .int .i64 338241895, .int .i64 666307205, .int .i64 773529912, .int .i64 1294757372, .int .i64 1396182291, .int .i64 1695183700, .int .i64 1986661051, .int .i64 2177026350, .int .i64 2456956037, .int .i64 2730485921, .int .i64 2820302411, .int .i64 3259730800, .int .i64 3345764771, .int .i64 3516065817, .int .i64 3600352804, .int .i64 4094571909, .int .i64 275423344, .int .i64 430227734, .int .i64 506948616, .int .i64 659060556, .int .i64 883997877, .int .i64 958139571, .int .i64 1322822218, .int .i64 1537002063, .int .i64 1747873779, .int .i64 1955562222, .int .i64 2024104815, .int .i64 2227730452, .int .i64 2361852424, .int .i64 2428436474, .int .i64 2756734187, .int .i64 3204031479, .int .i64 3329325298]) (ok := fun _ => True) (okp := fun _ => True) ?hr ?hp (fun _ hk => hk) trivial (Below.refl _ _) (Nat.le_refl _) (by simp) ?_; (case hd => rfl); (case hg => rfl); (case hr => first | (go_simp; done) | (go_simp; rfl)); (case hp => exact (Reps.one (show Kd.M (Kd.int .i64) _ _ _ 1116352408 [.int .i64 1116352408] from rfl) (Reps.one (show Kd.M (Kd.int .i64) _ _ _ 1899447441 [.int .i64 1899447441] from rfl) (Reps.one (show Kd.M (Kd.int .i64) _ _ _ 3049323471 [.int .i64 3049323471] from rfl) (Reps.one (show Kd.M (Kd.int .i64) _ _ _ 3921009573 [.int .i64 3921009573] from rfl) (Reps.one (show Kd.M (Kd.int .i64) _ _ _ 961987163 [.int .i64 961987163] from rfl) (Reps.one (show Kd.M (Kd.int .i64) _ _ _ 1508970993 [.int .i64 1508970993] from rfl) (Reps.one (show Kd.M (Kd.int .i64) _ _ _ 2453635748 [.int .i64 2453635748] from rfl) (Reps.one (show Kd.M (Kd.int .i64) _ _ _ 2870763221 [.int .i64 2870763221] from rfl) (Reps.one (show Kd.M (Kd.int .i64) _ _ _ 3624381080 [.int .i64 3624381080] from rfl) (Reps.one (show Kd.M (Kd.int .i64) _ _ _ 310598401 [.int .i64 310598401] from rfl) (Reps.one (show Kd.M (Kd.int .i64) _ _ _ 607225278 [.int .i64 607225278] from rfl) (Reps.one (show Kd.M (Kd.int .i64) _ _ _ 1426881987 [.int .i64 1426881987] from rfl) (Reps.one (show Kd.M (Kd.int .i64) _ _ _ 1925078388 [.int .i64 1925078388] from rfl) (Reps.one (show Kd.M (Kd.int .i64) _ _ _ 2162078206 [.int .i64 2162078206] from rfl) (Reps.one (show Kd.M (Kd.int .i64) _ _ _ 2614888103 [.int .i64 2614888103] from rfl) (Reps.one (show Kd.M (Kd.int .i64) _ _ _ 3248222580 [.int .i64 3248222580] from rfl) (Reps.one (show Kd.M (Kd.int .i64) _ _ _ 3835390401 [.int .i64 3835390401] from rfl) (Reps.one (show Kd.M (Kd.int .i64) _ _ _ 4022224774 [.int .i64 4022224774] from rfl) (Reps.one (show Kd.M (Kd.int .i64) _ _ _ 264347078 [.int .i64 264347078] from rfl) (Reps.one (show Kd.M (Kd.int .i64) _ _ _ 604807628 [.int .i64 604807628] from rfl) (Reps.one (show Kd.M (Kd.int .i64) _ _ _ 770255983 [.int .i64 770255983] from rfl) (Reps.one (show Kd.M (Kd.int .i64) _ _ _ 1249150122 [.int .i64 1249150122] from rfl) (Reps.one (show Kd.M (Kd.int .i64) _ _ _ 1555081692 [.int .i64 1555081692] from rfl) (Reps.one (show Kd.M (Kd.int .i64) _ _ _ 1996064986 [.int .i64 1996064986] from rfl) (Reps.one (show Kd.M (Kd.int .i64) _ _ _ 2554220882 [.int .i64 2554220882] from rfl) (Reps.one (show Kd.M (Kd.int .i64) _ _ _ 2821834349 [.int .i64 2821834349] from rfl) (Reps.one (show Kd.M (Kd.int .i64) _ _ _ 2952996808 [.int .i64 2952996808] from rfl) (Reps.one (show Kd.M (Kd.int .i64) _ _ _ 3210313671 [.int .i64 3210313671] from rfl) (Reps.one (show Kd.M (Kd.int .i64) _ _ _ 3336571891 [.int .i64 3336571891] from rfl) (Reps.one (show Kd.M (Kd.int .i64) _ _ _ 3584528711 [.int .i64 3584528711] from rfl) (Reps.one (show Kd.M (Kd.int .i64) _ _ _ 113926993 [.int .i64 113926993] from rfl) (Reps.one (show Kd.M (Kd.int .i64) _ _ _ 338241895 [.int .i64 338241895] from rfl) (Reps.one (show Kd.M (Kd.int .i64) _ _ _ 666307205 [.int .i64 666307205] from rfl) (Reps.one (show Kd.M (Kd.int .i64) _ _ _ 773529912 [.int .i64 773529912] from rfl) (Reps.one (show Kd.M (Kd.int .i64) _ _ _ 1294757372 [.int .i64 1294757372] from rfl) (Reps.one (show Kd.M (Kd.int .i64) _ _ _ 1396182291 [.int .i64 1396182291] from rfl) (Reps.one (show Kd.M (Kd.int .i64) _ _ _ 1695183700 [.int .i64 1695183700] from rfl) (Reps.one (show Kd.M (Kd.int .i64) _ _ _ 1986661051 [.int .i64 1986661051] from rfl) (Reps.one (show Kd.M (Kd.int .i64) _ _ _ 2177026350 [.int .i64 2177026350] from rfl) (Reps.one (show Kd.M (Kd.int .i64) _ _ _ 2456956037 [.int .i64 2456956037] from rfl) (Reps.one (show Kd.M (Kd.int .i64) _ _ _ 2730485921 [.int .i64 2730485921] from rfl) (Reps.one (show Kd.M (Kd.int .i64) _ _ _ 2820302411 [.int .i64 2820302411] from rfl) (Reps.one (show Kd.M (Kd.int .i64) _ _ _ 3259730800 [.int .i64 3259730800] from rfl) (Reps.one (show Kd.M (Kd.int .i64) _ _ _ 3345764771 [.int .i64 3345764771] from rfl) (Reps.one (show Kd.M (Kd.int .i64) _ _ _ 3516065817 [.int .i64 3516065817] from rfl) (Reps.one (show Kd.M (Kd.int .i64) _ _ _ 3600352804 [.int .i64 3600352804] from rfl) (Reps.one (show Kd.M (Kd.int .i64) _ _ _ 4094571909 [.int .i64 4094571909] from rfl) (Reps.one (show Kd.M (Kd.int .i64) _ _ _ 275423344 [.int .i64 275423344] from rfl) (Reps.one (show Kd.M (Kd.int .i64) _ _ _ 430227734 [.int .i64 430227734] from rfl) (Reps.one (show Kd.M (Kd.int .i64) _ _ _ 506948616 [.int .i64 506948616] from rfl) (Reps.one (show Kd.M (Kd.int .i64) _ _ _ 659060556 [.int .i64 659060556] from rfl) (Reps.one (show Kd.M (Kd.int .i64) _ _ _ 883997877 [.int .i64 883997877] from rfl) (Reps.one (show Kd.M (Kd.int .i64) _ _ _ 958139571 [.int .i64 958139571] from rfl) (Reps.one (show Kd.M (Kd.int .i64) _ _ _ 1322822218 [.int .i64 1322822218] from rfl) (Reps.one (show Kd.M (Kd.int .i64) _ _ _ 1537002063 [.int .i64 1537002063] from rfl) (Reps.one (show Kd.M (Kd.int .i64) _ _ _ 1747873779 [.int .i64 1747873779] from rfl) (Reps.one (show Kd.M (Kd.int .i64) _ _ _ 1955562222 [.int .i64 1955562222] from rfl) (Reps.one (show Kd.M (Kd.int .i64) _ _ _ 2024104815 [.int .i64 2024104815] from rfl) (Reps.one (show Kd.M (Kd.int .i64) _ _ _ 2227730452 [.int .i64 2227730452] from rfl) (Reps.one (show Kd.M (Kd.int .i64) _ _ _ 2361852424 [.int .i64 2361852424] from rfl) (Reps.one (show Kd.M (Kd.int .i64) _ _ _ 2428436474 [.int .i64 2428436474] from rfl) (Reps.one (show Kd.M (Kd.int .i64) _ _ _ 2756734187 [.int .i64 2756734187] from rfl) (Reps.one (show Kd.M (Kd.int .i64) _ _ _ 3204031479 [.int .i64 3204031479] from rfl) (Reps.one (show Kd.M (Kd.int .i64) _ _ _ 3329325298 [.int .i64 3329325298] from rfl) (Reps.none _ _)))))))))))))))))))))))))))))))))))))))))))))))))))))))))))))))))); intro v602 w1 ho2 hb hg_ hnew_; clear hg_ hnew_; (first | rw [← Ny601.out] at ho2 | (simp only [Int.reduceToNat] at ho2; rw [← Ny601.out] at ho2)); have n0_ := Aside0.mk (Kd.R_lower ho2 (below_size (by repeat (first | (with_reducible first | exact HB.out | apply below_alloc | apply pw_below_drewN | apply below_drew1) | exact HB.out)))); have n1_ := Aside0.mk (below_step (by repeat (first | (with_reducible first | exact HB.out | apply below_alloc | apply pw_below_drewN | apply below_drew1) | exact HB.out)) hb); clear HB; have HO603 := n0_; have HB := n1_; clear n0_ n1_; clear hb ho2))
  go_ret
  exact ⟨_, by first | rfl | (simp [errW_none, errW_some] <;> rfl) | (simp [*, errW_none, errW_some] <;> rfl), by (with_reducible repeat (first | apply Kd.R_alloc | apply Kd.R_drewN | apply Kd.R_drew)); exact HO603.out, by repeat (first | (with_reducible first | exact HB.out | apply below_alloc | apply pw_below_drewN | apply below_drew1) | exact HB.out)⟩

end Go.Proofs.Ytoipfpjcpngpfaa.Q
end

section
-- Written by a program of this session (wip/tools/pp.sh) over the print of the kit.
namespace Go.Proofs.Ytoipfpjcpngpfaa.Q
open Go.RowKit Go.Proofs.YtoipfpjcpngpfaaW.PrintWords Go.Proofs.YtoipfpjcpngpfaaW.PrintLast Go.Proofs.YtoipfpjcpngpfaaW.PrintMore
attribute [local go_sem] max2_int min2_int max_two min_two max_three min_three max_four min_four   -- for this text's walks alone
set_option linter.unusedVariables false
set_option linter.unusedSimpArgs false

/-! ### spec_l2Turn: function 177 -/
def spec_l2Turn.f (a0 : Int) (a1 : Int) : Option (Int) := if 0 ≤ (IntKind.u64.wrap (a1)) then (if 0 ≤ (IntKind.u64.wrap (wrap64 (32 - a1))) then (some (Go.bits .and .i64 (Go.bits .or .i64 (shr .i64 a0 (IntKind.u64.wrap (a1))) (shl .i64 a0 (IntKind.u64.wrap (wrap64 (32 - a1))))) 4294967295)) else (none)) else (none)
set_option maxHeartbeats 8000000 in
set_option maxRecDepth 100000 in
theorem spec_l2Turn.calls (a0 : Int) (a1 : Int) (r : Int) (w : World) (h : spec_l2Turn.f a0 a1 = some r) :
    Calls Try.prog 177 #[.int .i64 a0, .int .i64 a1] w fun e w' => e = .returned (.int .i64 r) ∧ Drawn0 w w' := by
  have H : (if 0 ≤ (IntKind.u64.wrap (a1)) then (if 0 ≤ (IntKind.u64.wrap (wrap64 (32 - a1))) then (some (Go.bits .and .i64 (Go.bits .or .i64 (shr .i64 a0 (IntKind.u64.wrap (a1))) (shl .i64 a0 (IntKind.u64.wrap (wrap64 (32 - a1))))) 4294967295)) else (none)) else (none)) = some r := h
  clear h
  obtain ⟨ji3, hji3⟩ : ∃ j_ : Int, (IntKind.u64.wrap (a1)) = j_ := ⟨_, rfl⟩
  replace H : (if 0 ≤ (ji3) then (if 0 ≤ (IntKind.u64.wrap (wrap64 (32 - a1))) then (some (Go.bits .and .i64 (Go.bits .or .i64 (shr .i64 a0 (ji3)) (shl .i64 a0 (IntKind.u64.wrap (wrap64 (32 - a1))))) 4294967295)) else (none)) else (none)) = some r := by first | (rw [hji3] at H; exact H) | (simp only [hji3] at H ⊢; exact H)
  by_cases c4 : 0 ≤ (ji3)
  · rw [if_pos c4] at H
    have c4b0 := eq_true c4
    have c4b1 : decide (0 ≤ (ji3)) = true := decide_eq_true c4
    clear c4
    obtain ⟨ji5, hji5⟩ : ∃ j_ : Int, (shr .i64 a0 (ji3)) = j_ := ⟨_, rfl⟩
    replace H : (if 0 ≤ (IntKind.u64.wrap (wrap64 (32 - a1))) then (some (Go.bits .and .i64 (Go.bits .or .i64 (ji5) (shl .i64 a0 (IntKind.u64.wrap (wrap64 (32 - a1))))) 4294967295)) else (none)) = some r := by first | (rw [hji5] at H; exact H) | (simp only [hji5] at H ⊢; exact H)
    have hji5_ : (a0 / 2 ^ min (ji3).toNat 64) = ji5 := hji5
    have hji5z : (ji3) ≤ 64 → (a0 / 2 ^ (ji3).toNat) = ji5 := shr_small hji5
    obtain ⟨ji6, hji6⟩ : ∃ j_ : Int, (IntKind.u64.wrap (wrap64 (32 - a1))) = j_ := ⟨_, rfl⟩
    replace H : (if 0 ≤ (ji6) then (some (Go.bits .and .i64 (Go.bits .or .i64 (ji5) (shl .i64 a0 (ji6))) 4294967295)) else (none)) = some r := by first | (rw [hji6] at H; exact H) | (simp only [hji6] at H ⊢; exact H)
    by_cases c7 : 0 ≤ (ji6)
    · rw [if_pos c7] at H
      have c7b0 := eq_true c7
      have c7b1 : decide (0 ≤ (ji6)) = true := decide_eq_true c7
      clear c7
      obtain ⟨ji8, hji8⟩ : ∃ j_ : Int, (shl .i64 a0 (ji6)) = j_ := ⟨_, rfl⟩
      replace H : (some (Go.bits .and .i64 (Go.bits .or .i64 (ji5) (ji8)) 4294967295)) = some r := by first | (rw [hji8] at H; exact H) | (simp only [hji8] at H ⊢; exact H)
      have hji8_ : (IntKind.i64.wrap (a0 * 2 ^ min (ji6).toNat 64)) = ji8 := hji8
      have hji8z : (ji6) ≤ 64 → (IntKind.i64.wrap (a0 * 2 ^ (ji6).toNat)) = ji8 := shl_small hji8
      have hji8y : (wrap64 (a0 * 2 ^ min (ji6).toNat 64)) = ji8 := (i64_w _).symm.trans hji8_
      have hji8x : (ji6) ≤ 64 → (wrap64 (a0 * 2 ^ (ji6).toNat)) = ji8 := fun h_ => (i64_w _).symm.trans (hji8z h_)
      obtain rfl := Option.some.inj H
      go_enter Try.func177, Try.ntmps177
      go_wp2
      go_ret
      exact ⟨by first | rfl | (simp; done) | (simp only [← hji3, ← hji5, ← hji6, ← hji8] <;> (first | rfl | simp)) | (simp [*]; done), by repeat (first | exact Drawn0.refl _ | apply Drawn0.step)⟩
    · rw [if_neg c7] at H
      exact absurd H (by simp)
  · rw [if_neg c4] at H
    exact absurd H (by simp)

end Go.Proofs.Ytoipfpjcpngpfaa.Q
end

section
-- Written by a program of this session (wip/tools/pp.sh) over the print of the kit.
namespace Go.Proofs.Ytoipfpjcpngpfaa.Q
open Go.RowKit Go.Proofs.YtoipfpjcpngpfaaW.PrintWords Go.Proofs.YtoipfpjcpngpfaaW.PrintLast Go.Proofs.YtoipfpjcpngpfaaW.PrintMore
attribute [local go_sem] max2_int min2_int max_two min_two max_three min_three max_four min_four   -- for this text's walks alone
set_option linter.unusedVariables false
set_option linter.unusedSimpArgs false

/-! ### spec_l2Words: function 176 -/
mutual
def spec_l2Words.l0 : Nat → List Int → List Int → Int → Option (List Int)
  | 0, _, _, _ => none
  | k + 1, x0, x3, x4 => if x4 < 16 then (if 0 ≤ (wrap64 (4 * x4)) then (if (wrap64 (4 * x4)) < (x0.length : Int) then (if 0 ≤ (wrap64 ((wrap64 (4 * x4)) + 1)) then (if (wrap64 ((wrap64 (4 * x4)) + 1)) < (x0.length : Int) then (if 0 ≤ (wrap64 ((wrap64 (4 * x4)) + 2)) then (if (wrap64 ((wrap64 (4 * x4)) + 2)) < (x0.length : Int) then (if 0 ≤ (wrap64 ((wrap64 (4 * x4)) + 3)) then (if (wrap64 ((wrap64 (4 * x4)) + 3)) < (x0.length : Int) then (if x3.length < 17592186044416 then (spec_l2Words.l0 k x0 (x3 ++ [Go.bits .or .i64 (Go.bits .or .i64 (Go.bits .or .i64 (wrap64 ((wrap64 (rd x0 (wrap64 (4 * x4)))) * 16777216)) (wrap64 ((wrap64 (rd x0 (wrap64 ((wrap64 (4 * x4)) + 1)))) * 65536))) (wrap64 ((wrap64 (rd x0 (wrap64 ((wrap64 (4 * x4)) + 2)))) * 256))) (wrap64 (rd x0 (wrap64 ((wrap64 (4 * x4)) + 3))))]) (wrap64 (x4 + 1))) else (none)) else (none)) else (none)) else (none)) else (none)) else (none)) else (none)) else (none)) else (none)) else (spec_l2Words.l1 k x3 16)
def spec_l2Words.l1 : Nat → List Int → Int → Option (List Int)
  | 0, _, _ => none
  | k + 1, x3, x5 => if x5 < 64 then (if 0 ≤ (wrap64 (x5 - 15)) then (if (wrap64 (x5 - 15)) < (x3.length : Int) then (if 0 ≤ (wrap64 (x5 - 2)) then (if (wrap64 (x5 - 2)) < (x3.length : Int) then ((spec_l2Turn.f (rd x3 (wrap64 (x5 - 15))) 7).bind fun t613 => ((spec_l2Turn.f (rd x3 (wrap64 (x5 - 15))) 18).bind fun t614 => ((spec_l2Turn.f (rd x3 (wrap64 (x5 - 2))) 17).bind fun t615 => ((spec_l2Turn.f (rd x3 (wrap64 (x5 - 2))) 19).bind fun t616 => (if 0 ≤ (wrap64 (x5 - 16)) then (if (wrap64 (x5 - 16)) < (x3.length : Int) then (if 0 ≤ (wrap64 (x5 - 7)) then (if (wrap64 (x5 - 7)) < (x3.length : Int) then (if x3.length < 17592186044416 then (spec_l2Words.l1 k (x3 ++ [Go.bits .and .i64 (wrap64 ((wrap64 ((wrap64 ((rd x3 (wrap64 (x5 - 16))) + (Go.bits .xor .i64 (Go.bits .xor .i64 t613 t614) ((rd x3 (wrap64 (x5 - 15))) / 8)))) + (rd x3 (wrap64 (x5 - 7))))) + (Go.bits .xor .i64 (Go.bits .xor .i64 t615 t616) ((rd x3 (wrap64 (x5 - 2))) / 1024)))) 4294967295]) (wrap64 (x5 + 1))) else (none)) else (none)) else (none)) else (none)) else (none)))))) else (none)) else (none)) else (none)) else (none)) else (some x3)
end
def spec_l2Words.f (k : Nat) (l0 : List Int) : Option (List Int) := spec_l2Words.l0 k l0 (([] : List Int)) 0
theorem spec_l2Words.mono_l : ∀ k, (∀ y0 y1 y2, LeO (spec_l2Words.l0 k y0 y1 y2) (spec_l2Words.l0 (k + 1) y0 y1 y2)) ∧ (∀ y0 y1, LeO (spec_l2Words.l1 k y0 y1) (spec_l2Words.l1 (k + 1) y0 y1))
  | 0 => ⟨fun _ _ _ r h => by simp [spec_l2Words.l0] at h, fun _ _ r h => by simp [spec_l2Words.l1] at h⟩
  | k + 1 => by
    obtain ⟨ih0, ih1⟩ := spec_l2Words.mono_l k
    refine ⟨?_, ?_⟩
    · intro y0 y1 y2
      unfold spec_l2Words.l0
      repeat' first
      | (with_reducible exact ih0 _ _ _)
      | (with_reducible exact ih1 _ _)
      | (with_reducible exact LeO.refl _)
      | (with_reducible exact LeO.none _)
      | (with_reducible refine LeO.ite ?_ ?_)
      | (with_reducible refine LeO.bind ?_ (fun _ => ?_))
      | exact ih0 _ _ _
      | exact ih1 _ _
      | exact LeO.none _
      | refine LeO.ite ?_ ?_
      | refine LeO.bind ?_ (fun _ => ?_)
    · intro y0 y1
      unfold spec_l2Words.l1
      repeat' first
      | (with_reducible exact ih0 _ _ _)
      | (with_reducible exact ih1 _ _)
      | (with_reducible exact LeO.refl _)
      | (with_reducible exact LeO.none _)
      | (with_reducible refine LeO.ite ?_ ?_)
      | (with_reducible refine LeO.bind ?_ (fun _ => ?_))
      | exact ih0 _ _ _
      | exact ih1 _ _
      | exact LeO.none _
      | refine LeO.ite ?_ ?_
      | refine LeO.bind ?_ (fun _ => ?_)
theorem spec_l2Words.mono : ∀ a0 k, LeO (spec_l2Words.f k a0) (spec_l2Words.f (k + 1) a0) := by
  intro a0 k
  obtain ⟨ih0, ih1⟩ := spec_l2Words.mono_l k
  unfold spec_l2Words.f
  repeat' first
      | (with_reducible exact ih0 _ _ _)
      | (with_reducible exact ih1 _ _)
      | (with_reducible exact LeO.refl _)
      | (with_reducible exact LeO.none _)
      | (with_reducible refine LeO.ite ?_ ?_)
      | (with_reducible refine LeO.bind ?_ (fun _ => ?_))
      | exact ih0 _ _ _
      | exact ih1 _ _
      | exact LeO.none _
      | refine LeO.ite ?_ ?_
      | refine LeO.bind ?_ (fun _ => ?_)
def spec_l2Words.T5 : Bool × List (List Nat × List Nat) := (true, [([], []), ([], []), ([], []), ([2], [2]), ([1, 3], [1, 3]), ([4], [4]), ([5], [5]), ([6], [6]), ([], []), ([], []), ([9], [9]), ([10], [10]), ([8, 11], [8, 11]), ([12], [12]), ([13], [13]), ([14], [14]), ([7, 15], [7, 15]), ([], []), ([], []), ([18], [18]), ([19], [19]), ([17, 20], [17, 20]), ([21], [21]), ([22], [22]), ([23], [23]), ([16, 24], [16, 24]), ([], []), ([], []), ([27], [27]), ([28], [28]), ([26, 29], [26, 29]), ([30], [30]), ([31], [31]), ([25, 32], [25, 32]), ([33], [33]), ([0, 34], [0, 34]), ([35, 35, 0, 1, 2, 3, 4, 5, 6, 7, 8, 9, 10, 11, 12, 13, 14, 15, 16, 17, 18, 19, 20, 21, 22, 23, 24, 25, 26, 27, 28, 29, 30, 31, 32, 33, 34, 35], [0, 35])])
def spec_l2Words.B5 : List Nat := [0, 0, 0, 4, 14, 30, 62, 126, 0, 0, 512, 1536, 3840, 7936, 16128, 32512, 65534, 0, 0, 262144, 786432, 1966080, 4063232, 8257536, 16646144, 33554430, 0, 0, 134217728, 402653184, 1006632960, 2080374784, 4227858432, 8589934590, 17179869182, 34359738367, 68719476735]
theorem spec_l2Words.tab5 : rtab .any (opsOf Try.f176 5) = spec_l2Words.T5 := by kernel_rfl
theorem spec_l2Words.bits5 : waitsOk spec_l2Words.T5.2 spec_l2Words.B5 = true := by kernel_rfl
def spec_l2Words.T13 : Bool × List (List Nat × List Nat) := (true, [([], []), ([], []), ([], []), ([2], [2]), ([1, 3], [1, 3]), ([4], [4]), ([], []), ([5, 6], [5, 6]), ([], []), ([], []), ([9], [9]), ([8, 10], [8, 10]), ([11], [11]), ([7, 12], [7, 12]), ([], []), ([13, 14], [13, 14]), ([15], [15]), ([16], [16]), ([0, 17], [0, 17]), ([18, 18, 0, 1, 2, 3, 4, 5, 6, 7, 8, 9, 10, 11, 12, 13, 14, 15, 16, 17, 18], [0, 1, 8, 18])])
def spec_l2Words.B13 : List Nat := [0, 0, 0, 4, 14, 30, 0, 126, 0, 0, 512, 1792, 3840, 8190, 0, 32766, 65534, 131070, 262143, 524287]
theorem spec_l2Words.tab13 : rtab .any (opsOf Try.f176 13) = spec_l2Words.T13 := by kernel_rfl
theorem spec_l2Words.bits13 : waitsOk spec_l2Words.T13.2 spec_l2Words.B13 = true := by kernel_rfl
set_option maxHeartbeats 8000000 in
set_option maxRecDepth 100000 in
theorem spec_l2Words.calls (k : Nat) (A0 : Option Addr) (c0 : Nat) (l0 : List Int) (r : List Int) (w : World) (hr0 : Kd.C (Kd.int .u8) w A0 l0.length l0) (hc0 : l0.length ≤ c0) (h : spec_l2Words.f k l0 = some r) :
    Calls Try.prog 176 #[.slice A0 l0.length c0] w fun e w' => ∃ v0_ : Value, e = .returned (v0_) ∧ Kd.R (Kd.int .i64) 3 w' w.heap.size (fun _ => True) v0_ r ∧ Below w.heap.size w w' := by
  have HR0 := Aside0.mk hr0
  have HC0 := Aside0.mk hc0
  clear hr0 hc0
  have HB := Aside0.mk (Below.refl w.heap.size w)
  have H : (spec_l2Words.l0 k l0 (([] : List Int)) 0) = some r := h
  clear h
  obtain ⟨y601, hy601⟩ : ∃ y_ : List Int, y_ = (([] : List Int)) := ⟨_, rfl⟩
  replace H : (spec_l2Words.l0 k l0 y601 0) = some r := by first | (rw [hy601]; with_reducible exact H) | (have H2_ := (Option.bind_some _ _).symm.trans H; rw [hy601]; with_reducible exact H2_) | (have H2_ := (Option.bind_some _ _).symm.trans H; with_reducible exact H2_) | with_reducible exact H | (rw [hy601]; exact H) | exact H
  have Ny601 := Aside0.mk hy601
  clear hy601
  have H' := Aside0.mk H
  clear H
  go_enter Try.func176, Try.ntmps176
  go_wp2_with (first | ((with_reducible refine gate_dst (N := 10) rfl ?_); refine Kd.R_lit (Kd.int .i64) _ 3 ?hg (N := 10) ?hd (xs := ([] : List Int)) (inner := []) (ok := fun _ => True) (okp := fun _ => True) ?hr ?hp (fun _ hk => hk) trivial (Below.refl _ _) (Nat.le_refl _) (by simp) ?_; (case hd => rfl); (case hg => rfl); (case hr => first | (go_simp; done) | (go_simp; rfl)); (case hp => exact (Reps.none _ _)); intro v602 w2 ho3 hb hg_ hnew_; clear hg_ hnew_; (first | rw [← Ny601.out] at ho3 | (simp only [Int.reduceToNat] at ho3; rw [← Ny601.out] at ho3)); have n0_ := Aside0.mk (Kd.R_lower ho3 (below_size (by repeat (first | (with_reducible first | exact HB.out | apply below_alloc | apply pw_below_drewN | apply below_drew1) | exact HB.out)))); have n1_ := Aside0.mk (below_step (by repeat (first | (with_reducible first | exact HB.out | apply below_alloc | apply pw_below_drewN | apply below_drew1) | exact HB.out)) hb); clear HB; have HO603 := n0_; have HB := n1_; clear n0_ n1_; clear hb ho3))
  go_loopg [3, 4] k (fun kq v3 v4 w' => ∃ (x3_1 : List Int) (x4_1 : Int), v4 = .int .i64 x4_1 ∧ Aside0 (spec_l2Words.l0 kq l0 x3_1 x4_1 = some r) ∧ Aside0 (kq ≤ k) ∧ Aside0 (Kd.R (Kd.int .i64) 3 w' w.heap.size (fun _ => True) v3 x3_1) ∧ Aside0 (Below w.heap.size w w'))
  case atStart => exact ⟨(y601), (0), (by first | rfl | (simp; done) | (simp [*]; done)), H', ⟨Nat.le_refl _⟩, ⟨by (with_reducible repeat (first | apply Kd.R_alloc | apply Kd.R_drewN | apply Kd.R_drew)); exact HO603.out⟩, ⟨by repeat (first | (with_reducible first | exact HB.out | apply below_alloc | apply pw_below_drewN | apply below_drew1) | exact HB.out)⟩⟩
  case round =>
    clear H'
    try clear c1
    try clear p2
    obtain ⟨x3_1, x4_1, rfl, HA, HK1, HO_3, HB⟩ := hrel
    cases gk with
    | zero => exact absurd HA.out (by simp [spec_l2Words.l0])
    | succ k1 =>
      have H := HA.out
      clear HA
      simp only [spec_l2Words.l0] at H
      by_cases c4 : x4_1 < 16
      · rw [if_pos c4] at H
        have c4b0 : decide (x4_1 < 16) = true := decide_eq_true c4
        clear c4
        obtain ⟨ji5, hji5⟩ : ∃ j_ : Int, (wrap64 (4 * x4_1)) = j_ := ⟨_, rfl⟩
        replace H : (if 0 ≤ (ji5) then (if (ji5) < (l0.length : Int) then (if 0 ≤ (wrap64 ((ji5) + 1)) then (if (wrap64 ((ji5) + 1)) < (l0.length : Int) then (if 0 ≤ (wrap64 ((ji5) + 2)) then (if (wrap64 ((ji5) + 2)) < (l0.length : Int) then (if 0 ≤ (wrap64 ((ji5) + 3)) then (if (wrap64 ((ji5) + 3)) < (l0.length : Int) then (if x3_1.length < 17592186044416 then (spec_l2Words.l0 k1 l0 (x3_1 ++ [Go.bits .or .i64 (Go.bits .or .i64 (Go.bits .or .i64 (wrap64 ((wrap64 (rd l0 (ji5))) * 16777216)) (wrap64 ((wrap64 (rd l0 (wrap64 ((ji5) + 1)))) * 65536))) (wrap64 ((wrap64 (rd l0 (wrap64 ((ji5) + 2)))) * 256))) (wrap64 (rd l0 (wrap64 ((ji5) + 3))))]) (wrap64 (x4_1 + 1))) else (none)) else (none)) else (none)) else (none)) else (none)) else (none)) else (none)) else (none)) else (none)) = some r := by first | (rw [hji5] at H; exact H) | (simp only [hji5] at H ⊢; exact H)
        have hji5w : (IntKind.i64.wrap (4 * x4_1)) = ji5 := (i64_w _).trans hji5
        by_cases c6 : 0 ≤ (ji5)
        · rw [if_pos c6] at H
          have c6b0 : decide (0 ≤ (ji5)) = true := decide_eq_true c6
          clear c6
          by_cases c7 : (ji5) < (l0.length : Int)
          · rw [if_pos c7] at H
            have c7b0 : decide ((ji5) < (l0.length : Int)) = true := decide_eq_true c7
            clear c7
            obtain ⟨ji8, hji8⟩ : ∃ j_ : Int, (wrap64 ((ji5) + 1)) = j_ := ⟨_, rfl⟩
            replace H : (if 0 ≤ (ji8) then (if (ji8) < (l0.length : Int) then (if 0 ≤ (wrap64 ((ji5) + 2)) then (if (wrap64 ((ji5) + 2)) < (l0.length : Int) then (if 0 ≤ (wrap64 ((ji5) + 3)) then (if (wrap64 ((ji5) + 3)) < (l0.length : Int) then (if x3_1.length < 17592186044416 then (spec_l2Words.l0 k1 l0 (x3_1 ++ [Go.bits .or .i64 (Go.bits .or .i64 (Go.bits .or .i64 (wrap64 ((wrap64 (rd l0 (ji5))) * 16777216)) (wrap64 ((wrap64 (rd l0 (ji8))) * 65536))) (wrap64 ((wrap64 (rd l0 (wrap64 ((ji5) + 2)))) * 256))) (wrap64 (rd l0 (wrap64 ((ji5) + 3))))]) (wrap64 (x4_1 + 1))) else (none)) else (none)) else (none)) else (none)) else (none)) else (none)) else (none)) = some r := by first | (rw [hji8] at H; exact H) | (simp only [hji8] at H ⊢; exact H)
            have hji8w : (IntKind.i64.wrap ((ji5) + 1)) = ji8 := (i64_w _).trans hji8
            by_cases c9 : 0 ≤ (ji8)
            · rw [if_pos c9] at H
              have c9b0 : decide (0 ≤ (ji8)) = true := decide_eq_true c9
              clear c9
              by_cases c10 : (ji8) < (l0.length : Int)
              · rw [if_pos c10] at H
                have c10b0 : decide ((ji8) < (l0.length : Int)) = true := decide_eq_true c10
                clear c10
                obtain ⟨ji11, hji11⟩ : ∃ j_ : Int, (wrap64 ((ji5) + 2)) = j_ := ⟨_, rfl⟩
                replace H : (if 0 ≤ (ji11) then (if (ji11) < (l0.length : Int) then (if 0 ≤ (wrap64 ((ji5) + 3)) then (if (wrap64 ((ji5) + 3)) < (l0.length : Int) then (if x3_1.length < 17592186044416 then (spec_l2Words.l0 k1 l0 (x3_1 ++ [Go.bits .or .i64 (Go.bits .or .i64 (Go.bits .or .i64 (wrap64 ((wrap64 (rd l0 (ji5))) * 16777216)) (wrap64 ((wrap64 (rd l0 (ji8))) * 65536))) (wrap64 ((wrap64 (rd l0 (ji11))) * 256))) (wrap64 (rd l0 (wrap64 ((ji5) + 3))))]) (wrap64 (x4_1 + 1))) else (none)) else (none)) else (none)) else (none)) else (none)) = some r := by first | (rw [hji11] at H; exact H) | (simp only [hji11] at H ⊢; exact H)
                have hji11w : (IntKind.i64.wrap ((ji5) + 2)) = ji11 := (i64_w _).trans hji11
                by_cases c12 : 0 ≤ (ji11)
                · rw [if_pos c12] at H
                  have c12b0 : decide (0 ≤ (ji11)) = true := decide_eq_true c12
                  clear c12
                  by_cases c13 : (ji11) < (l0.length : Int)
                  · rw [if_pos c13] at H
                    have c13b0 : decide ((ji11) < (l0.length : Int)) = true := decide_eq_true c13
                    clear c13
                    obtain ⟨ji14, hji14⟩ : ∃ j_ : Int, (wrap64 ((ji5) + 3)) = j_ := ⟨_, rfl⟩
                    replace H : (if 0 ≤ (ji14) then (if (ji14) < (l0.length : Int) then (if x3_1.length < 17592186044416 then (spec_l2Words.l0 k1 l0 (x3_1 ++ [Go.bits .or .i64 (Go.bits .or .i64 (Go.bits .or .i64 (wrap64 ((wrap64 (rd l0 (ji5))) * 16777216)) (wrap64 ((wrap64 (rd l0 (ji8))) * 65536))) (wrap64 ((wrap64 (rd l0 (ji11))) * 256))) (wrap64 (rd l0 (ji14)))]) (wrap64 (x4_1 + 1))) else (none)) else (none)) else (none)) = some r := by first | (rw [hji14] at H; exact H) | (simp only [hji14] at H ⊢; exact H)
                    have hji14w : (IntKind.i64.wrap ((ji5) + 3)) = ji14 := (i64_w _).trans hji14
                    by_cases c15 : 0 ≤ (ji14)
                    · rw [if_pos c15] at H
                      have c15b0 : decide (0 ≤ (ji14)) = true := decide_eq_true c15
                      clear c15
                      by_cases c16 : (ji14) < (l0.length : Int)
                      · rw [if_pos c16] at H
                        have c16b0 : decide ((ji14) < (l0.length : Int)) = true := decide_eq_true c16
                        clear c16
                        by_cases c17 : x3_1.length < 17592186044416
                        · rw [if_pos c17] at H
                          have LMc17 := Aside0.mk c17
                          clear c17
                          obtain ⟨y608, hy608⟩ : ∃ y_ : List Int, y_ = (x3_1 ++ [Go.bits .or .i64 (Go.bits .or .i64 (Go.bits .or .i64 (wrap64 ((wrap64 (rd l0 (ji5))) * 16777216)) (wrap64 ((wrap64 (rd l0 (ji8))) * 65536))) (wrap64 ((wrap64 (rd l0 (ji11))) * 256))) (wrap64 (rd l0 (ji14)))]) := ⟨_, rfl⟩
                          replace H : (spec_l2Words.l0 k1 l0 y608 (wrap64 (x4_1 + 1))) = some r := by first | (rw [hy608]; with_reducible exact H) | (have H2_ := (Option.bind_some _ _).symm.trans H; rw [hy608]; with_reducible exact H2_) | (have H2_ := (Option.bind_some _ _).symm.trans H; with_reducible exact H2_) | with_reducible exact H | (rw [hy608]; exact H) | exact H
                          have Ny608 := Aside0.mk hy608
                          clear hy608
                          have H' := Aside0.mk H
                          clear H
                          try go_wp2
                          have n0_ := Aside0.mk (Kd.R_drew HO_3.out)
                          have n1_ := Aside0.mk (below_drew1 HB.out)
                          clear HO_3
                          clear HB
                          have HO_3 := n0_
                          have HB := n1_
                          clear n0_ n1_
                          have p604 : 0 ≤ ((ji5) : Int) := of_decide_eq_true (by first | (with_reducible assumption) | assumption)
                          have q604 : (ji5) < (l0.length : Int) := of_decide_eq_true (by first | (with_reducible assumption) | assumption)
                          obtain ⟨ad604, e604, hx604_0⟩ := Kd.at_int HR0.out (ji5) p604 q604
                          have hw604_0 := hx604_0
                          cases e604
                          replace hx604_0 := (HB.out.cell (World.block_lt_of_cell? w _ hx604_0)).trans hx604_0
                          replace p604 := eq_true p604
                          replace q604 := eq_true q604
                          have p605 : 0 ≤ ((ji8) : Int) := of_decide_eq_true (by first | (with_reducible assumption) | assumption)
                          have q605 : (ji8) < (l0.length : Int) := of_decide_eq_true (by first | (with_reducible assumption) | assumption)
                          obtain ⟨ad605, e605, hx605_0⟩ := Kd.at_int HR0.out (ji8) p605 q605
                          have hw605_0 := hx605_0
                          obtain rfl : ad604 = ad605 := (by injection e605)
                          replace hx605_0 := (HB.out.cell (World.block_lt_of_cell? w _ hx605_0)).trans hx605_0
                          replace p605 := eq_true p605
                          replace q605 := eq_true q605
                          have p606 : 0 ≤ ((ji11) : Int) := of_decide_eq_true (by first | (with_reducible assumption) | assumption)
                          have q606 : (ji11) < (l0.length : Int) := of_decide_eq_true (by first | (with_reducible assumption) | assumption)
                          obtain ⟨ad606, e606, hx606_0⟩ := Kd.at_int HR0.out (ji11) p606 q606
                          have hw606_0 := hx606_0
                          obtain rfl : ad604 = ad606 := (by injection e606)
                          replace hx606_0 := (HB.out.cell (World.block_lt_of_cell? w _ hx606_0)).trans hx606_0
                          replace p606 := eq_true p606
                          replace q606 := eq_true q606
                          have p607 : 0 ≤ ((ji14) : Int) := of_decide_eq_true (by first | (with_reducible assumption) | assumption)
                          have q607 : (ji14) < (l0.length : Int) := of_decide_eq_true (by first | (with_reducible assumption) | assumption)
                          obtain ⟨ad607, e607, hx607_0⟩ := Kd.at_int HR0.out (ji14) p607 q607
                          have hw607_0 := hx607_0
                          obtain rfl : ad604 = ad607 := (by injection e607)
                          replace hx607_0 := (HB.out.cell (World.block_lt_of_cell? w _ hx607_0)).trans hx607_0
                          replace p607 := eq_true p607
                          replace q607 := eq_true q607
                          refine start_ (n := 37) (S := fun w' => w'.cell? (ad604.add ((ji5)).toNat) = some (.int .u8 (rd l0 (ji5))) ∧ w'.cell? (ad604.add ((ji8)).toNat) = some (.int .u8 (rd l0 (ji8))) ∧ w'.cell? (ad604.add ((ji11)).toNat) = some (.int .u8 (rd l0 (ji11))) ∧ w'.cell? (ad604.add ((ji14)).toNat) = some (.int .u8 (rd l0 (ji14)))) (ds := []) #[false, false, false, false, false, false, false, false, false, false, false, false, false, false, false, false, false, false, false, false, false, false, false, false, false, false, false, false, false, false, false, false, false, false, false, false, false] (by kernel_rfl) rfl rfl ⟨((HB.out.cell (World.block_lt_of_cell? w _ hw604_0)).trans hw604_0), ((HB.out.cell (World.block_lt_of_cell? w _ hw605_0)).trans hw605_0), ((HB.out.cell (World.block_lt_of_cell? w _ hw606_0)).trans hw606_0), ((HB.out.cell (World.block_lt_of_cell? w _ hw607_0)).trans hw607_0)⟩ (fun hHeld => ?_); refine with_tabW spec_l2Words.tab5 spec_l2Words.bits5 (fun HT_ HW_ => ?_)
                          generalize wr.drew = w18 at HO_3 HB hx604_0 hx605_0 hx606_0 hx607_0 hHeld ⊢
                          refine pure_ (i := 0) (N := some 15) (v := ?_) (a' := ?_) #[true, false, false, false, false, false, false, false, false, false, false, false, false, false, false, false, false, false, false, false, false, false, false, false, false, false, false, false, false, false, false, false, false, false, false, false, false] rfl rfl (any_of HT_.out (by kernel_rfl)) (fun _ _ _ h => h) (Or.inl ⟨by rfl, ?_⟩) ?_ ?_
                          rotate_left
                          · intro w'
                            go_simp
                            with_reducible rfl
                          rotate_left
                          · simp only [Act.put, List.setIfInBounds_toArray, List.set_cons_zero, List.set_cons_succ, i64_w, i32_w]
                            rfl
                          refine pure_ (i := 1) (N := some 16) (v := ?_) (a' := ?_) #[true, true, false, false, false, false, false, false, false, false, false, false, false, false, false, false, false, false, false, false, false, false, false, false, false, false, false, false, false, false, false, false, false, false, false, false, false] rfl rfl (any_of HT_.out (by kernel_rfl)) (fun _ _ _ h => h) (Or.inl ⟨by rfl, ?_⟩) ?_ ?_
                          rotate_left
                          · intro w'
                            go_simp
                            with_reducible rfl
                          rotate_left
                          · simp only [Act.put, List.setIfInBounds_toArray, List.set_cons_zero, List.set_cons_succ, i64_w, i32_w]
                            rfl
                          refine pure_ (i := 2) (N := some 17) (v := ?_) (a' := ?_) #[true, true, true, false, false, false, false, false, false, false, false, false, false, false, false, false, false, false, false, false, false, false, false, false, false, false, false, false, false, false, false, false, false, false, false, false, false] rfl rfl (any_of HT_.out (by kernel_rfl)) (fun _ _ _ h => h) (Or.inl ⟨by rfl, ?_⟩) ?_ ?_
                          rotate_left
                          · intro w'
                            go_simp
                            with_reducible rfl
                          rotate_left
                          · simp only [Act.put, List.setIfInBounds_toArray, List.set_cons_zero, List.set_cons_succ, i64_w, i32_w]
                            rfl
                          refine pure_ (i := 3) (N := some 18) (v := ?_) (a' := ?_) #[true, true, true, true, false, false, false, false, false, false, false, false, false, false, false, false, false, false, false, false, false, false, false, false, false, false, false, false, false, false, false, false, false, false, false, false, false] rfl rfl (any_of HT_.out (by kernel_rfl)) (fun _ _ _ h => h) (Or.inl ⟨by rfl, ?_⟩) ?_ ?_
                          rotate_left
                          · intro w'
                            go_simp
                            with_reducible rfl
                          rotate_left
                          · simp only [Act.put, List.setIfInBounds_toArray, List.set_cons_zero, List.set_cons_succ, i64_w, i32_w]
                            rfl
                          refine pure_ (i := 4) (N := some 19) (v := ?_) (a' := ?_) #[true, true, true, true, true, false, false, false, false, false, false, false, false, false, false, false, false, false, false, false, false, false, false, false, false, false, false, false, false, false, false, false, false, false, false, false, false] rfl rfl (any_of HT_.out (by kernel_rfl)) (fun _ _ _ h => h) (Or.inl ⟨by rfl, ?_⟩) ?_ ?_
                          rotate_left
                          · intro w'
                            go_simp
                            with_reducible rfl
                          rotate_left
                          · simp only [Act.put, List.setIfInBounds_toArray, List.set_cons_zero, List.set_cons_succ, i64_w, i32_w]
                            rfl
                          refine pure_ (i := 8) (N := some 23) (v := ?_) (a' := ?_) #[true, true, true, true, true, false, false, false, true, false, false, false, false, false, false, false, false, false, false, false, false, false, false, false, false, false, false, false, false, false, false, false, false, false, false, false, false] rfl rfl (any_of HT_.out (by kernel_rfl)) (fun _ _ _ h => h) (Or.inl ⟨by rfl, ?_⟩) ?_ ?_
                          rotate_left
                          · intro w'
                            go_simp
                            with_reducible rfl
                          rotate_left
                          · simp only [Act.put, List.setIfInBounds_toArray, List.set_cons_zero, List.set_cons_succ, i64_w, i32_w]
                            rfl
                          refine pure_ (i := 9) (N := some 24) (v := ?_) (a' := ?_) #[true, true, true, true, true, false, false, false, true, true, false, false, false, false, false, false, false, false, false, false, false, false, false, false, false, false, false, false, false, false, false, false, false, false, false, false, false] rfl rfl (any_of HT_.out (by kernel_rfl)) (fun _ _ _ h => h) (Or.inl ⟨by rfl, ?_⟩) ?_ ?_
                          rotate_left
                          · intro w'
                            go_simp
                            with_reducible rfl
                          rotate_left
                          · simp only [Act.put, List.setIfInBounds_toArray, List.set_cons_zero, List.set_cons_succ, i64_w, i32_w]
                            rfl
                          refine pure_ (i := 10) (N := some 25) (v := ?_) (a' := ?_) #[true, true, true, true, true, false, false, false, true, true, true, false, false, false, false, false, false, false, false, false, false, false, false, false, false, false, false, false, false, false, false, false, false, false, false, false, false] rfl rfl (any_of HT_.out (by kernel_rfl)) (fun _ _ _ h => h) (Or.inl ⟨by rfl, ?_⟩) ?_ ?_
                          rotate_left
                          · intro w'
                            go_simp
                            with_reducible rfl
                          rotate_left
                          · simp only [Act.put, List.setIfInBounds_toArray, List.set_cons_zero, List.set_cons_succ, i64_w, i32_w]
                            rfl
                          refine pure_ (i := 11) (N := some 26) (v := ?_) (a' := ?_) #[true, true, true, true, true, false, false, false, true, true, true, true, false, false, false, false, false, false, false, false, false, false, false, false, false, false, false, false, false, false, false, false, false, false, false, false, false] rfl rfl (any_of HT_.out (by kernel_rfl)) (fun _ _ _ h => h) (Or.inl ⟨by rfl, ?_⟩) ?_ ?_
                          rotate_left
                          · intro w'
                            go_simp
                            with_reducible rfl
                          rotate_left
                          · simp only [Act.put, List.setIfInBounds_toArray, List.set_cons_zero, List.set_cons_succ, i64_w, i32_w]
                            rfl
                          refine pure_ (i := 12) (N := some 27) (v := ?_) (a' := ?_) #[true, true, true, true, true, false, false, false, true, true, true, true, true, false, false, false, false, false, false, false, false, false, false, false, false, false, false, false, false, false, false, false, false, false, false, false, false] rfl rfl (any_of HT_.out (by kernel_rfl)) (fun _ _ _ h => h) (Or.inl ⟨by rfl, ?_⟩) ?_ ?_
                          rotate_left
                          · intro w'
                            go_simp
                            with_reducible rfl
                          rotate_left
                          · simp only [Act.put, List.setIfInBounds_toArray, List.set_cons_zero, List.set_cons_succ, i64_w, i32_w]
                            rfl
                          refine pure_ (i := 17) (N := some 32) (v := ?_) (a' := ?_) #[true, true, true, true, true, false, false, false, true, true, true, true, true, false, false, false, false, true, false, false, false, false, false, false, false, false, false, false, false, false, false, false, false, false, false, false, false] rfl rfl (any_of HT_.out (by kernel_rfl)) (fun _ _ _ h => h) (Or.inl ⟨by rfl, ?_⟩) ?_ ?_
                          rotate_left
                          · intro w'
                            go_simp
                            with_reducible rfl
                          rotate_left
                          · simp only [Act.put, List.setIfInBounds_toArray, List.set_cons_zero, List.set_cons_succ, i64_w, i32_w]
                            rfl
                          refine pure_ (i := 18) (N := some 33) (v := ?_) (a' := ?_) #[true, true, true, true, true, false, false, false, true, true, true, true, true, false, false, false, false, true, true, false, false, false, false, false, false, false, false, false, false, false, false, false, false, false, false, false, false] rfl rfl (any_of HT_.out (by kernel_rfl)) (fun _ _ _ h => h) (Or.inl ⟨by rfl, ?_⟩) ?_ ?_
                          rotate_left
                          · intro w'
                            go_simp
                            with_reducible rfl
                          rotate_left
                          · simp only [Act.put, List.setIfInBounds_toArray, List.set_cons_zero, List.set_cons_succ, i64_w, i32_w]
                            rfl
                          refine pure_ (i := 19) (N := some 34) (v := ?_) (a' := ?_) #[true, true, true, true, true, false, false, false, true, true, true, true, true, false, false, false, false, true, true, true, false, false, false, false, false, false, false, false, false, false, false, false, false, false, false, false, false] rfl rfl (any_of HT_.out (by kernel_rfl)) (fun _ _ _ h => h) (Or.inl ⟨by rfl, ?_⟩) ?_ ?_
                          rotate_left
                          · intro w'
                            go_simp
                            with_reducible rfl
                          rotate_left
                          · simp only [Act.put, List.setIfInBounds_toArray, List.set_cons_zero, List.set_cons_succ, i64_w, i32_w]
                            rfl
                          refine pure_ (i := 20) (N := some 35) (v := ?_) (a' := ?_) #[true, true, true, true, true, false, false, false, true, true, true, true, true, false, false, false, false, true, true, true, true, false, false, false, false, false, false, false, false, false, false, false, false, false, false, false, false] rfl rfl (any_of HT_.out (by kernel_rfl)) (fun _ _ _ h => h) (Or.inl ⟨by rfl, ?_⟩) ?_ ?_
                          rotate_left
                          · intro w'
                            go_simp
                            with_reducible rfl
                          rotate_left
                          · simp only [Act.put, List.setIfInBounds_toArray, List.set_cons_zero, List.set_cons_succ, i64_w, i32_w]
                            rfl
                          refine pure_ (i := 21) (N := some 36) (v := ?_) (a' := ?_) #[true, true, true, true, true, false, false, false, true, true, true, true, true, false, false, false, false, true, true, true, true, true, false, false, false, false, false, false, false, false, false, false, false, false, false, false, false] rfl rfl (any_of HT_.out (by kernel_rfl)) (fun _ _ _ h => h) (Or.inl ⟨by rfl, ?_⟩) ?_ ?_
                          rotate_left
                          · intro w'
                            go_simp
                            with_reducible rfl
                          rotate_left
                          · simp only [Act.put, List.setIfInBounds_toArray, List.set_cons_zero, List.set_cons_succ, i64_w, i32_w]
                            rfl
                          refine pure_ (i := 26) (N := some 41) (v := ?_) (a' := ?_) #[true, true, true, true, true, false, false, false, true, true, true, true, true, false, false, false, false, true, true, true, true, true, false, false, false, false, true, false, false, false, false, false, false, false, false, false, false] rfl rfl (any_of HT_.out (by kernel_rfl)) (fun _ _ _ h => h) (Or.inl ⟨by rfl, ?_⟩) ?_ ?_
                          rotate_left
                          · intro w'
                            go_simp
                            with_reducible rfl
                          rotate_left
                          · simp only [Act.put, List.setIfInBounds_toArray, List.set_cons_zero, List.set_cons_succ, i64_w, i32_w]
                            rfl
                          refine pure_ (i := 27) (N := some 42) (v := ?_) (a' := ?_) #[true, true, true, true, true, false, false, false, true, true, true, true, true, false, false, false, false, true, true, true, true, true, false, false, false, false, true, true, false, false, false, false, false, false, false, false, false] rfl rfl (any_of HT_.out (by kernel_rfl)) (fun _ _ _ h => h) (Or.inl ⟨by rfl, ?_⟩) ?_ ?_
                          rotate_left
                          · intro w'
                            go_simp
                            with_reducible rfl
                          rotate_left
                          · simp only [Act.put, List.setIfInBounds_toArray, List.set_cons_zero, List.set_cons_succ, i64_w, i32_w]
                            rfl
                          refine pure_ (i := 28) (N := some 43) (v := ?_) (a' := ?_) #[true, true, true, true, true, false, false, false, true, true, true, true, true, false, false, false, false, true, true, true, true, true, false, false, false, false, true, true, true, false, false, false, false, false, false, false, false] rfl rfl (any_of HT_.out (by kernel_rfl)) (fun _ _ _ h => h) (Or.inl ⟨by rfl, ?_⟩) ?_ ?_
                          rotate_left
                          · intro w'
                            go_simp
                            with_reducible rfl
                          rotate_left
                          · simp only [Act.put, List.setIfInBounds_toArray, List.set_cons_zero, List.set_cons_succ, i64_w, i32_w]
                            rfl
                          refine pure_ (i := 29) (N := some 44) (v := ?_) (a' := ?_) #[true, true, true, true, true, false, false, false, true, true, true, true, true, false, false, false, false, true, true, true, true, true, false, false, false, false, true, true, true, true, false, false, false, false, false, false, false] rfl rfl (any_of HT_.out (by kernel_rfl)) (fun _ _ _ h => h) (Or.inl ⟨by rfl, ?_⟩) ?_ ?_
                          rotate_left
                          · intro w'
                            go_simp
                            with_reducible rfl
                          rotate_left
                          · simp only [Act.put, List.setIfInBounds_toArray, List.set_cons_zero, List.set_cons_succ, i64_w, i32_w]
                            rfl
                          refine pure_ (i := 30) (N := some 45) (v := ?_) (a' := ?_) #[true, true, true, true, true, false, false, false, true, true, true, true, true, false, false, false, false, true, true, true, true, true, false, false, false, false, true, true, true, true, true, false, false, false, false, false, false] rfl rfl (any_of HT_.out (by kernel_rfl)) (fun _ _ _ h => h) (Or.inl ⟨by rfl, ?_⟩) ?_ ?_
                          rotate_left
                          · intro w'
                            go_simp
                            with_reducible rfl
                          rotate_left
                          · simp only [Act.put, List.setIfInBounds_toArray, List.set_cons_zero, List.set_cons_succ, i64_w, i32_w]
                            rfl
                          refine take_ (i := 5) (N := some 20) (v := ?_) (a' := ?_) #[true, true, true, true, true, true, false, false, true, true, true, true, true, false, false, false, false, true, true, true, true, true, false, false, false, false, true, true, true, true, true, false, false, false, false, false, false] rfl rfl (take_ofW HT_.out HW_.out (by kernel_rfl)) (fun _ _ _ h => h) (Or.inl ⟨by rfl, ?_⟩) hHeld ?_ ?_
                          rotate_left
                          · rintro w' ⟨s0, s1, s2, s3⟩
                            go_simp
                            with_reducible rfl
                          rotate_left
                          · simp only [Act.put, List.setIfInBounds_toArray, List.set_cons_zero, List.set_cons_succ, i64_w, i32_w]
                            rfl
                          refine pure_ (i := 6) (N := some 21) (v := ?_) (a' := ?_) #[true, true, true, true, true, true, true, false, true, true, true, true, true, false, false, false, false, true, true, true, true, true, false, false, false, false, true, true, true, true, true, false, false, false, false, false, false] rfl rfl (any_of HT_.out (by kernel_rfl)) (fun _ _ _ h => h) (Or.inl ⟨by rfl, ?_⟩) ?_ ?_
                          rotate_left
                          · intro w'
                            go_simp
                            with_reducible rfl
                          rotate_left
                          · simp only [Act.put, List.setIfInBounds_toArray, List.set_cons_zero, List.set_cons_succ, i64_w, i32_w]
                            rfl
                          refine pure_ (i := 7) (N := some 22) (v := ?_) (a' := ?_) #[true, true, true, true, true, true, true, true, true, true, true, true, true, false, false, false, false, true, true, true, true, true, false, false, false, false, true, true, true, true, true, false, false, false, false, false, false] rfl rfl (any_of HT_.out (by kernel_rfl)) (fun _ _ _ h => h) (Or.inl ⟨by rfl, ?_⟩) ?_ ?_
                          rotate_left
                          · intro w'
                            go_simp
                            with_reducible rfl
                          rotate_left
                          · simp only [Act.put, List.setIfInBounds_toArray, List.set_cons_zero, List.set_cons_succ, i64_w, i32_w]
                            rfl
                          refine take_ (i := 13) (N := some 28) (v := ?_) (a' := ?_) #[true, true, true, true, true, true, true, true, true, true, true, true, true, true, false, false, false, true, true, true, true, true, false, false, false, false, true, true, true, true, true, false, false, false, false, false, false] rfl rfl (take_ofW HT_.out HW_.out (by kernel_rfl)) (fun _ _ _ h => h) (Or.inl ⟨by rfl, ?_⟩) hHeld ?_ ?_
                          rotate_left
                          · rintro w' ⟨s0, s1, s2, s3⟩
                            go_simp
                            with_reducible rfl
                          rotate_left
                          · simp only [Act.put, List.setIfInBounds_toArray, List.set_cons_zero, List.set_cons_succ, i64_w, i32_w]
                            rfl
                          refine pure_ (i := 14) (N := some 29) (v := ?_) (a' := ?_) #[true, true, true, true, true, true, true, true, true, true, true, true, true, true, true, false, false, true, true, true, true, true, false, false, false, false, true, true, true, true, true, false, false, false, false, false, false] rfl rfl (any_of HT_.out (by kernel_rfl)) (fun _ _ _ h => h) (Or.inl ⟨by rfl, ?_⟩) ?_ ?_
                          rotate_left
                          · intro w'
                            go_simp
                            with_reducible rfl
                          rotate_left
                          · simp only [Act.put, List.setIfInBounds_toArray, List.set_cons_zero, List.set_cons_succ, i64_w, i32_w]
                            rfl
                          refine pure_ (i := 15) (N := some 30) (v := ?_) (a' := ?_) #[true, true, true, true, true, true, true, true, true, true, true, true, true, true, true, true, false, true, true, true, true, true, false, false, false, false, true, true, true, true, true, false, false, false, false, false, false] rfl rfl (any_of HT_.out (by kernel_rfl)) (fun _ _ _ h => h) (Or.inl ⟨by rfl, ?_⟩) ?_ ?_
                          rotate_left
                          · intro w'
                            go_simp
                            with_reducible rfl
                          rotate_left
                          · simp only [Act.put, List.setIfInBounds_toArray, List.set_cons_zero, List.set_cons_succ, i64_w, i32_w]
                            rfl
                          refine pure_ (i := 16) (N := some 31) (v := ?_) (a' := ?_) #[true, true, true, true, true, true, true, true, true, true, true, true, true, true, true, true, true, true, true, true, true, true, false, false, false, false, true, true, true, true, true, false, false, false, false, false, false] rfl rfl (any_of HT_.out (by kernel_rfl)) (fun _ _ _ h => h) (Or.inl ⟨by rfl, ?_⟩) ?_ ?_
                          rotate_left
                          · intro w'
                            go_simp
                            with_reducible rfl
                          rotate_left
                          · simp only [Act.put, List.setIfInBounds_toArray, List.set_cons_zero, List.set_cons_succ, i64_w, i32_w]
                            rfl
                          refine take_ (i := 22) (N := some 37) (v := ?_) (a' := ?_) #[true, true, true, true, true, true, true, true, true, true, true, true, true, true, true, true, true, true, true, true, true, true, true, false, false, false, true, true, true, true, true, false, false, false, false, false, false] rfl rfl (take_ofW HT_.out HW_.out (by kernel_rfl)) (fun _ _ _ h => h) (Or.inl ⟨by rfl, ?_⟩) hHeld ?_ ?_
                          rotate_left
                          · rintro w' ⟨s0, s1, s2, s3⟩
                            go_simp
                            with_reducible rfl
                          rotate_left
                          · simp only [Act.put, List.setIfInBounds_toArray, List.set_cons_zero, List.set_cons_succ, i64_w, i32_w]
                            rfl
                          refine pure_ (i := 23) (N := some 38) (v := ?_) (a' := ?_) #[true, true, true, true, true, true, true, true, true, true, true, true, true, true, true, true, true, true, true, true, true, true, true, true, false, false, true, true, true, true, true, false, false, false, false, false, false] rfl rfl (any_of HT_.out (by kernel_rfl)) (fun _ _ _ h => h) (Or.inl ⟨by rfl, ?_⟩) ?_ ?_
                          rotate_left
                          · intro w'
                            go_simp
                            with_reducible rfl
                          rotate_left
                          · simp only [Act.put, List.setIfInBounds_toArray, List.set_cons_zero, List.set_cons_succ, i64_w, i32_w]
                            rfl
                          refine pure_ (i := 24) (N := some 39) (v := ?_) (a' := ?_) #[true, true, true, true, true, true, true, true, true, true, true, true, true, true, true, true, true, true, true, true, true, true, true, true, true, false, true, true, true, true, true, false, false, false, false, false, false] rfl rfl (any_of HT_.out (by kernel_rfl)) (fun _ _ _ h => h) (Or.inl ⟨by rfl, ?_⟩) ?_ ?_
                          rotate_left
                          · intro w'
                            go_simp
                            with_reducible rfl
                          rotate_left
                          · simp only [Act.put, List.setIfInBounds_toArray, List.set_cons_zero, List.set_cons_succ, i64_w, i32_w]
                            rfl
                          refine pure_ (i := 25) (N := some 40) (v := ?_) (a' := ?_) #[true, true, true, true, true, true, true, true, true, true, true, true, true, true, true, true, true, true, true, true, true, true, true, true, true, true, true, true, true, true, true, false, false, false, false, false, false] rfl rfl (any_of HT_.out (by kernel_rfl)) (fun _ _ _ h => h) (Or.inl ⟨by rfl, ?_⟩) ?_ ?_
                          rotate_left
                          · intro w'
                            go_simp
                            with_reducible rfl
                          rotate_left
                          · simp only [Act.put, List.setIfInBounds_toArray, List.set_cons_zero, List.set_cons_succ, i64_w, i32_w]
                            rfl
                          refine take_ (i := 31) (N := some 46) (v := ?_) (a' := ?_) #[true, true, true, true, true, true, true, true, true, true, true, true, true, true, true, true, true, true, true, true, true, true, true, true, true, true, true, true, true, true, true, true, false, false, false, false, false] rfl rfl (take_ofW HT_.out HW_.out (by kernel_rfl)) (fun _ _ _ h => h) (Or.inl ⟨by rfl, ?_⟩) hHeld ?_ ?_
                          rotate_left
                          · rintro w' ⟨s0, s1, s2, s3⟩
                            go_simp
                            with_reducible rfl
                          rotate_left
                          · simp only [Act.put, List.setIfInBounds_toArray, List.set_cons_zero, List.set_cons_succ, i64_w, i32_w]
                            rfl
                          refine pure_ (i := 32) (N := some 47) (v := ?_) (a' := ?_) #[true, true, true, true, true, true, true, true, true, true, true, true, true, true, true, true, true, true, true, true, true, true, true, true, true, true, true, true, true, true, true, true, true, false, false, false, false] rfl rfl (any_of HT_.out (by kernel_rfl)) (fun _ _ _ h => h) (Or.inl ⟨by rfl, ?_⟩) ?_ ?_
                          rotate_left
                          · intro w'
                            go_simp
                            with_reducible rfl
                          rotate_left
                          · simp only [Act.put, List.setIfInBounds_toArray, List.set_cons_zero, List.set_cons_succ, i64_w, i32_w]
                            rfl
                          refine pure_ (i := 33) (N := some 48) (v := ?_) (a' := ?_) #[true, true, true, true, true, true, true, true, true, true, true, true, true, true, true, true, true, true, true, true, true, true, true, true, true, true, true, true, true, true, true, true, true, true, false, false, false] rfl rfl (any_of HT_.out (by kernel_rfl)) (fun _ _ _ h => h) (Or.inl ⟨by rfl, ?_⟩) ?_ ?_
                          rotate_left
                          · intro w'
                            go_simp
                            with_reducible rfl
                          rotate_left
                          · simp only [Act.put, List.setIfInBounds_toArray, List.set_cons_zero, List.set_cons_succ, i64_w, i32_w]
                            rfl
                          refine one_ (i := 34) (N := some 49) #[true, true, true, true, true, true, true, true, true, true, true, true, true, true, true, true, true, true, true, true, true, true, true, true, true, true, true, true, true, true, true, true, true, true, true, false, false] rfl rfl (one_of HT_.out (by kernel_rfl)) (by decide) (fun K hK => ?_)
                          refine value_ (w1 := ?_) (v := ?_) (by rfl) rfl ?_ ?_
                          rotate_left 2
                          · go_simp
                            constructor
                            · rfl
                            · rfl
                          refine hK.out _ _ ⟨(World.cell?_alloc_lt _ _ _ (World.block_lt_of_cell? _ _ (((HB.out.cell (World.block_lt_of_cell? w _ hw604_0)).trans hw604_0)))).trans (((HB.out.cell (World.block_lt_of_cell? w _ hw604_0)).trans hw604_0)), (World.cell?_alloc_lt _ _ _ (World.block_lt_of_cell? _ _ (((HB.out.cell (World.block_lt_of_cell? w _ hw605_0)).trans hw605_0)))).trans (((HB.out.cell (World.block_lt_of_cell? w _ hw605_0)).trans hw605_0)), (World.cell?_alloc_lt _ _ _ (World.block_lt_of_cell? _ _ (((HB.out.cell (World.block_lt_of_cell? w _ hw606_0)).trans hw606_0)))).trans (((HB.out.cell (World.block_lt_of_cell? w _ hw606_0)).trans hw606_0)), (World.cell?_alloc_lt _ _ _ (World.block_lt_of_cell? _ _ (((HB.out.cell (World.block_lt_of_cell? w _ hw607_0)).trans hw607_0)))).trans (((HB.out.cell (World.block_lt_of_cell? w _ hw607_0)).trans hw607_0))⟩ (fun hHeld => ?_)
                          clear hK K
                          refine norm_ (a' := ?_) ?_ ?_
                          rotate_left
                          · show Act.put _ (some 49) _ = _
                            simp only [Act.put, List.setIfInBounds_toArray, List.set_cons_zero, List.set_cons_succ, i64_w, i32_w]
                            rfl
                          refine one_ (i := 35) (N := some 50) #[true, true, true, true, true, true, true, true, true, true, true, true, true, true, true, true, true, true, true, true, true, true, true, true, true, true, true, true, true, true, true, true, true, true, true, true, false] rfl rfl (one_of HT_.out (by kernel_rfl)) (by decide) (fun K hK => ?_)
                          refine Kd.R_append_step (Kd.int .i64) (w0 := w) w.heap.size (by rfl) (.tmp 15) (.tmp 49) 136 3 (.int .i64 0) 8 rfl Try.underlying136 info3 rfl (by decide) (by omega) u3 x3_1 (Go.bits .or .i64 (Go.bits .or .i64 (Go.bits .or .i64 (wrap64 ((wrap64 (rd l0 (ji5))) * 16777216)) (wrap64 ((wrap64 (rd l0 (ji8))) * 65536))) (wrap64 ((wrap64 (rd l0 (ji11))) * 256))) (wrap64 (rd l0 (ji14)))) [.int .i64 (Go.bits .or .i64 (Go.bits .or .i64 (Go.bits .or .i64 (wrap64 ((wrap64 (rd l0 (ji5))) * 16777216)) (wrap64 ((wrap64 (rd l0 (ji8))) * 65536))) (wrap64 ((wrap64 (rd l0 (ji11))) * 256))) (wrap64 (rd l0 (ji14))))] (fun _ => True) (fun _ => False) rfl rfl ?aP (fun _ hk => hk.elim) ?aF ?aO ?aB ?aS ?aL ?_
                          (case aP => exact rfl)
                          (case aB => exact (by repeat (first | (with_reducible first | exact HB.out | apply below_alloc | apply pw_below_drewN | apply below_drew1) | exact HB.out)))
                          (case aF => exact (fun _ _ => trivial))
                          (case aO => exact (by (with_reducible repeat (first | apply Kd.R_alloc | apply Kd.R_drewN | apply Kd.R_drew)); exact HO_3.out))
                          (case aS => exact (below_size (by repeat (first | (with_reducible first | exact HB.out | apply below_alloc | apply pw_below_drewN | apply below_drew1) | exact HB.out))))
                          (case aL => have := LMc17.out; omega)
                          intro v609 w19 ho hb hg hat
                          rw [← Ny608.out] at ho
                          have n0_ := Aside0.mk (hb)
                          have n1_ := Aside0.mk (ho)
                          clear HB
                          clear HO_3
                          have HB := n0_
                          have HO610 := n1_
                          clear n0_ n1_
                          clear ho hb hg hat
                          refine hK.out _ _ ⟨((HB.out.cell (World.block_lt_of_cell? w _ hw604_0)).trans hw604_0), ((HB.out.cell (World.block_lt_of_cell? w _ hw605_0)).trans hw605_0), ((HB.out.cell (World.block_lt_of_cell? w _ hw606_0)).trans hw606_0), ((HB.out.cell (World.block_lt_of_cell? w _ hw607_0)).trans hw607_0)⟩ (fun hHeld => ?_)
                          clear hK K
                          refine norm_ (a' := ?_) ?_ ?_
                          rotate_left
                          · show Act.put _ (some 50) _ = _
                            simp only [Act.put, List.setIfInBounds_toArray, List.set_cons_zero, List.set_cons_succ, i64_w, i32_w]
                            rfl
                          refine pure_ (i := 36) (N := some 3) (v := ?_) (a' := ?_) #[true, true, true, true, true, true, true, true, true, true, true, true, true, true, true, true, true, true, true, true, true, true, true, true, true, true, true, true, true, true, true, true, true, true, true, true, true] rfl rfl (any_of HT_.out (by kernel_rfl)) (fun _ _ _ h => h) (Or.inl ⟨by rfl, ?_⟩) ?_ ?_
                          rotate_left
                          · intro w'
                            go_simp
                            with_reducible rfl
                          rotate_left
                          · simp only [Act.put, List.setIfInBounds_toArray, List.set_cons_zero, List.set_cons_succ, i64_w, i32_w]
                            rfl
                          refine done_ (done_of HT_.out (by kernel_rfl)) ?_
                          try go_wp2
                          go_roundg k1
                          case measure => have := HK1.out; omega
                          case rel => exact ⟨(y608), (wrap64 (x4_1 + 1)), (by first | rfl | (simp; done) | (simp [*]; done)), H', ⟨by have := HK1.out; omega⟩, ⟨by (with_reducible repeat (first | apply Kd.R_alloc | apply Kd.R_drewN | apply Kd.R_drew)); exact HO610.out⟩, ⟨by repeat (first | (with_reducible first | exact HB.out | apply below_alloc | apply pw_below_drewN | apply below_drew1) | exact HB.out)⟩⟩
                        · rw [if_neg c17] at H
                          exact absurd H (by simp)
                      · rw [if_neg c16] at H
                        exact absurd H (by simp)
                    · rw [if_neg c15] at H
                      exact absurd H (by simp)
                  · rw [if_neg c13] at H
                    exact absurd H (by simp)
                · rw [if_neg c12] at H
                  exact absurd H (by simp)
              · rw [if_neg c10] at H
                exact absurd H (by simp)
            · rw [if_neg c9] at H
              exact absurd H (by simp)
          · rw [if_neg c7] at H
            exact absurd H (by simp)
        · rw [if_neg c6] at H
          exact absurd H (by simp)
      · rw [if_neg c4] at H
        have c4b0 : decide (x4_1 < 16) = false := decide_eq_false c4
        clear c4
        have H' := Aside0.mk H
        clear H
        go_wp2
        go_loopg [3, 5] k1 (fun kq v3 v5 w' => ∃ (x3_2 : List Int) (x5_2 : Int), v5 = .int .i64 x5_2 ∧ Aside0 (spec_l2Words.l1 kq x3_2 x5_2 = some r) ∧ Aside0 (kq ≤ k1) ∧ Aside0 (Kd.R (Kd.int .i64) 3 w' w.heap.size (fun _ => True) v3 x3_2) ∧ Aside0 (Below w.heap.size w w'))
        case atStart => exact ⟨(x3_1), (16), (by first | rfl | (simp; done) | (simp [*]; done)), H', ⟨Nat.le_refl _⟩, ⟨by (with_reducible repeat (first | apply Kd.R_alloc | apply Kd.R_drewN | apply Kd.R_drew)); exact HO_3.out⟩, ⟨by repeat (first | (with_reducible first | exact HB.out | apply below_alloc | apply pw_below_drewN | apply below_drew1) | exact HB.out)⟩⟩
        case round =>
          clear H'
          try clear c1
          try clear p2
          try clear c4
          try clear c4b0
          try clear c6
          try clear c6b0
          try clear p6
          try clear q6
          try clear hx6
          try clear c7
          try clear c7b0
          try clear c9
          try clear c9b0
          try clear c10
          try clear c10b0
          try clear c12
          try clear c12b0
          try clear c13
          try clear c13b0
          try clear c15
          try clear c15b0
          try clear c16
          try clear c16b0
          try clear c17
          try clear hx604_0
          try clear hx605_0
          try clear hx606_0
          try clear hx607_0
          try clear p2
          try clear p604
          try clear p605
          try clear p606
          try clear p607
          try clear q604
          try clear q605
          try clear q606
          try clear q607
          obtain ⟨x3_2, x5_2, rfl, HA, HK2, HO_3, HB⟩ := hrel
          cases gk with
          | zero => exact absurd HA.out (by simp [spec_l2Words.l1])
          | succ k2 =>
            have H := HA.out
            clear HA
            simp only [spec_l2Words.l1] at H
            by_cases c20 : x5_2 < 64
            · rw [if_pos c20] at H
              have c20b0 : decide (x5_2 < 64) = true := decide_eq_true c20
              clear c20
              obtain ⟨ji21, hji21⟩ : ∃ j_ : Int, (wrap64 (x5_2 - 15)) = j_ := ⟨_, rfl⟩
              replace H : (if 0 ≤ (ji21) then (if (ji21) < (x3_2.length : Int) then (if 0 ≤ (wrap64 (x5_2 - 2)) then (if (wrap64 (x5_2 - 2)) < (x3_2.length : Int) then ((spec_l2Turn.f (rd x3_2 (ji21)) 7).bind fun t613 => ((spec_l2Turn.f (rd x3_2 (ji21)) 18).bind fun t614 => ((spec_l2Turn.f (rd x3_2 (wrap64 (x5_2 - 2))) 17).bind fun t615 => ((spec_l2Turn.f (rd x3_2 (wrap64 (x5_2 - 2))) 19).bind fun t616 => (if 0 ≤ (wrap64 (x5_2 - 16)) then (if (wrap64 (x5_2 - 16)) < (x3_2.length : Int) then (if 0 ≤ (wrap64 (x5_2 - 7)) then (if (wrap64 (x5_2 - 7)) < (x3_2.length : Int) then (if x3_2.length < 17592186044416 then (spec_l2Words.l1 k2 (x3_2 ++ [Go.bits .and .i64 (wrap64 ((wrap64 ((wrap64 ((rd x3_2 (wrap64 (x5_2 - 16))) + (Go.bits .xor .i64 (Go.bits .xor .i64 t613 t614) ((rd x3_2 (ji21)) / 8)))) + (rd x3_2 (wrap64 (x5_2 - 7))))) + (Go.bits .xor .i64 (Go.bits .xor .i64 t615 t616) ((rd x3_2 (wrap64 (x5_2 - 2))) / 1024)))) 4294967295]) (wrap64 (x5_2 + 1))) else (none)) else (none)) else (none)) else (none)) else (none)))))) else (none)) else (none)) else (none)) else (none)) = some r := by first | (rw [hji21] at H; exact H) | (simp only [hji21] at H ⊢; exact H)
              have hji21w : (IntKind.i64.wrap (x5_2 - 15)) = ji21 := (i64_w _).trans hji21
              by_cases c22 : 0 ≤ (ji21)
              · rw [if_pos c22] at H
                have c22b0 : decide (0 ≤ (ji21)) = true := decide_eq_true c22
                clear c22
                by_cases c23 : (ji21) < (x3_2.length : Int)
                · rw [if_pos c23] at H
                  have c23b0 : decide ((ji21) < (x3_2.length : Int)) = true := decide_eq_true c23
                  clear c23
                  obtain ⟨ji24, hji24⟩ : ∃ j_ : Int, (wrap64 (x5_2 - 2)) = j_ := ⟨_, rfl⟩
                  replace H : (if 0 ≤ (ji24) then (if (ji24) < (x3_2.length : Int) then ((spec_l2Turn.f (rd x3_2 (ji21)) 7).bind fun t613 => ((spec_l2Turn.f (rd x3_2 (ji21)) 18).bind fun t614 => ((spec_l2Turn.f (rd x3_2 (ji24)) 17).bind fun t615 => ((spec_l2Turn.f (rd x3_2 (ji24)) 19).bind fun t616 => (if 0 ≤ (wrap64 (x5_2 - 16)) then (if (wrap64 (x5_2 - 16)) < (x3_2.length : Int) then (if 0 ≤ (wrap64 (x5_2 - 7)) then (if (wrap64 (x5_2 - 7)) < (x3_2.length : Int) then (if x3_2.length < 17592186044416 then (spec_l2Words.l1 k2 (x3_2 ++ [Go.bits .and .i64 (wrap64 ((wrap64 ((wrap64 ((rd x3_2 (wrap64 (x5_2 - 16))) + (Go.bits .xor .i64 (Go.bits .xor .i64 t613 t614) ((rd x3_2 (ji21)) / 8)))) + (rd x3_2 (wrap64 (x5_2 - 7))))) + (Go.bits .xor .i64 (Go.bits .xor .i64 t615 t616) ((rd x3_2 (ji24)) / 1024)))) 4294967295]) (wrap64 (x5_2 + 1))) else (none)) else (none)) else (none)) else (none)) else (none)))))) else (none)) else (none)) = some r := by first | (rw [hji24] at H; exact H) | (simp only [hji24] at H ⊢; exact H)
                  have hji24w : (IntKind.i64.wrap (x5_2 - 2)) = ji24 := (i64_w _).trans hji24
                  by_cases c25 : 0 ≤ (ji24)
                  · rw [if_pos c25] at H
                    have c25b0 : decide (0 ≤ (ji24)) = true := decide_eq_true c25
                    clear c25
                    by_cases c26 : (ji24) < (x3_2.length : Int)
                    · rw [if_pos c26] at H
                      have c26b0 : decide ((ji24) < (x3_2.length : Int)) = true := decide_eq_true c26
                      clear c26
                      replace H := Option.bind_eq_some_iff.mp H
                      obtain ⟨t613, A270, H⟩ := H
                      replace H : ((spec_l2Turn.f (rd x3_2 (ji21)) 18).bind fun t614 => ((spec_l2Turn.f (rd x3_2 (ji24)) 17).bind fun t615 => ((spec_l2Turn.f (rd x3_2 (ji24)) 19).bind fun t616 => (if 0 ≤ (wrap64 (x5_2 - 16)) then (if (wrap64 (x5_2 - 16)) < (x3_2.length : Int) then (if 0 ≤ (wrap64 (x5_2 - 7)) then (if (wrap64 (x5_2 - 7)) < (x3_2.length : Int) then (if x3_2.length < 17592186044416 then (spec_l2Words.l1 k2 (x3_2 ++ [Go.bits .and .i64 (wrap64 ((wrap64 ((wrap64 ((rd x3_2 (wrap64 (x5_2 - 16))) + (Go.bits .xor .i64 (Go.bits .xor .i64 t613 t614) ((rd x3_2 (ji21)) / 8)))) + (rd x3_2 (wrap64 (x5_2 - 7))))) + (Go.bits .xor .i64 (Go.bits .xor .i64 t615 t616) ((rd x3_2 (ji24)) / 1024)))) 4294967295]) (wrap64 (x5_2 + 1))) else (none)) else (none)) else (none)) else (none)) else (none))))) = some r := H
                      have A27 := Aside0.mk A270
                      clear A270
                      replace H := Option.bind_eq_some_iff.mp H
                      obtain ⟨t614, A280, H⟩ := H
                      replace H : ((spec_l2Turn.f (rd x3_2 (ji24)) 17).bind fun t615 => ((spec_l2Turn.f (rd x3_2 (ji24)) 19).bind fun t616 => (if 0 ≤ (wrap64 (x5_2 - 16)) then (if (wrap64 (x5_2 - 16)) < (x3_2.length : Int) then (if 0 ≤ (wrap64 (x5_2 - 7)) then (if (wrap64 (x5_2 - 7)) < (x3_2.length : Int) then (if x3_2.length < 17592186044416 then (spec_l2Words.l1 k2 (x3_2 ++ [Go.bits .and .i64 (wrap64 ((wrap64 ((wrap64 ((rd x3_2 (wrap64 (x5_2 - 16))) + (Go.bits .xor .i64 (Go.bits .xor .i64 t613 t614) ((rd x3_2 (ji21)) / 8)))) + (rd x3_2 (wrap64 (x5_2 - 7))))) + (Go.bits .xor .i64 (Go.bits .xor .i64 t615 t616) ((rd x3_2 (ji24)) / 1024)))) 4294967295]) (wrap64 (x5_2 + 1))) else (none)) else (none)) else (none)) else (none)) else (none)))) = some r := H
                      have A28 := Aside0.mk A280
                      clear A280
                      replace H := Option.bind_eq_some_iff.mp H
                      obtain ⟨t615, A290, H⟩ := H
                      replace H : ((spec_l2Turn.f (rd x3_2 (ji24)) 19).bind fun t616 => (if 0 ≤ (wrap64 (x5_2 - 16)) then (if (wrap64 (x5_2 - 16)) < (x3_2.length : Int) then (if 0 ≤ (wrap64 (x5_2 - 7)) then (if (wrap64 (x5_2 - 7)) < (x3_2.length : Int) then (if x3_2.length < 17592186044416 then (spec_l2Words.l1 k2 (x3_2 ++ [Go.bits .and .i64 (wrap64 ((wrap64 ((wrap64 ((rd x3_2 (wrap64 (x5_2 - 16))) + (Go.bits .xor .i64 (Go.bits .xor .i64 t613 t614) ((rd x3_2 (ji21)) / 8)))) + (rd x3_2 (wrap64 (x5_2 - 7))))) + (Go.bits .xor .i64 (Go.bits .xor .i64 t615 t616) ((rd x3_2 (ji24)) / 1024)))) 4294967295]) (wrap64 (x5_2 + 1))) else (none)) else (none)) else (none)) else (none)) else (none))) = some r := H
                      have A29 := Aside0.mk A290
                      clear A290
                      replace H := Option.bind_eq_some_iff.mp H
                      obtain ⟨t616, A300, H⟩ := H
                      replace H : (if 0 ≤ (wrap64 (x5_2 - 16)) then (if (wrap64 (x5_2 - 16)) < (x3_2.length : Int) then (if 0 ≤ (wrap64 (x5_2 - 7)) then (if (wrap64 (x5_2 - 7)) < (x3_2.length : Int) then (if x3_2.length < 17592186044416 then (spec_l2Words.l1 k2 (x3_2 ++ [Go.bits .and .i64 (wrap64 ((wrap64 ((wrap64 ((rd x3_2 (wrap64 (x5_2 - 16))) + (Go.bits .xor .i64 (Go.bits .xor .i64 t613 t614) ((rd x3_2 (ji21)) / 8)))) + (rd x3_2 (wrap64 (x5_2 - 7))))) + (Go.bits .xor .i64 (Go.bits .xor .i64 t615 t616) ((rd x3_2 (ji24)) / 1024)))) 4294967295]) (wrap64 (x5_2 + 1))) else (none)) else (none)) else (none)) else (none)) else (none)) = some r := H
                      have A30 := Aside0.mk A300
                      clear A300
                      obtain ⟨ji31, hji31⟩ : ∃ j_ : Int, (wrap64 (x5_2 - 16)) = j_ := ⟨_, rfl⟩
                      replace H : (if 0 ≤ (ji31) then (if (ji31) < (x3_2.length : Int) then (if 0 ≤ (wrap64 (x5_2 - 7)) then (if (wrap64 (x5_2 - 7)) < (x3_2.length : Int) then (if x3_2.length < 17592186044416 then (spec_l2Words.l1 k2 (x3_2 ++ [Go.bits .and .i64 (wrap64 ((wrap64 ((wrap64 ((rd x3_2 (ji31)) + (Go.bits .xor .i64 (Go.bits .xor .i64 t613 t614) ((rd x3_2 (ji21)) / 8)))) + (rd x3_2 (wrap64 (x5_2 - 7))))) + (Go.bits .xor .i64 (Go.bits .xor .i64 t615 t616) ((rd x3_2 (ji24)) / 1024)))) 4294967295]) (wrap64 (x5_2 + 1))) else (none)) else (none)) else (none)) else (none)) else (none)) = some r := by first | (rw [hji31] at H; exact H) | (simp only [hji31] at H ⊢; exact H)
                      (try rw [hji31] at A27)
                      (try rw [hji31] at A28)
                      (try rw [hji31] at A29)
                      (try rw [hji31] at A30)
                      have hji31w : (IntKind.i64.wrap (x5_2 - 16)) = ji31 := (i64_w _).trans hji31
                      by_cases c32 : 0 ≤ (ji31)
                      · rw [if_pos c32] at H
                        have c32b0 : decide (0 ≤ (ji31)) = true := decide_eq_true c32
                        clear c32
                        by_cases c33 : (ji31) < (x3_2.length : Int)
                        · rw [if_pos c33] at H
                          have c33b0 : decide ((ji31) < (x3_2.length : Int)) = true := decide_eq_true c33
                          clear c33
                          obtain ⟨ji34, hji34⟩ : ∃ j_ : Int, (wrap64 (x5_2 - 7)) = j_ := ⟨_, rfl⟩
                          replace H : (if 0 ≤ (ji34) then (if (ji34) < (x3_2.length : Int) then (if x3_2.length < 17592186044416 then (spec_l2Words.l1 k2 (x3_2 ++ [Go.bits .and .i64 (wrap64 ((wrap64 ((wrap64 ((rd x3_2 (ji31)) + (Go.bits .xor .i64 (Go.bits .xor .i64 t613 t614) ((rd x3_2 (ji21)) / 8)))) + (rd x3_2 (ji34)))) + (Go.bits .xor .i64 (Go.bits .xor .i64 t615 t616) ((rd x3_2 (ji24)) / 1024)))) 4294967295]) (wrap64 (x5_2 + 1))) else (none)) else (none)) else (none)) = some r := by first | (rw [hji34] at H; exact H) | (simp only [hji34] at H ⊢; exact H)
                          (try rw [hji34] at A27)
                          (try rw [hji34] at A28)
                          (try rw [hji34] at A29)
                          (try rw [hji34] at A30)
                          have hji34w : (IntKind.i64.wrap (x5_2 - 7)) = ji34 := (i64_w _).trans hji34
                          by_cases c35 : 0 ≤ (ji34)
                          · rw [if_pos c35] at H
                            have c35b0 : decide (0 ≤ (ji34)) = true := decide_eq_true c35
                            clear c35
                            by_cases c36 : (ji34) < (x3_2.length : Int)
                            · rw [if_pos c36] at H
                              have c36b0 : decide ((ji34) < (x3_2.length : Int)) = true := decide_eq_true c36
                              clear c36
                              by_cases c37 : x3_2.length < 17592186044416
                              · rw [if_pos c37] at H
                                have LMc37 := Aside0.mk c37
                                clear c37
                                obtain ⟨y619, hy619⟩ : ∃ y_ : List Int, y_ = (x3_2 ++ [Go.bits .and .i64 (wrap64 ((wrap64 ((wrap64 ((rd x3_2 (ji31)) + (Go.bits .xor .i64 (Go.bits .xor .i64 t613 t614) ((rd x3_2 (ji21)) / 8)))) + (rd x3_2 (ji34)))) + (Go.bits .xor .i64 (Go.bits .xor .i64 t615 t616) ((rd x3_2 (ji24)) / 1024)))) 4294967295]) := ⟨_, rfl⟩
                                replace H : (spec_l2Words.l1 k2 y619 (wrap64 (x5_2 + 1))) = some r := by first | (rw [hy619]; with_reducible exact H) | (have H2_ := (Option.bind_some _ _).symm.trans H; rw [hy619]; with_reducible exact H2_) | (have H2_ := (Option.bind_some _ _).symm.trans H; with_reducible exact H2_) | with_reducible exact H | (rw [hy619]; exact H) | exact H
                                have Ny619 := Aside0.mk hy619
                                clear hy619
                                have H' := Aside0.mk H
                                clear H
                                obtain ⟨Ao38, co38, eo38⟩ := Kd.R_slice HO_3.out
                                subst eo38
                                have p611 : 0 ≤ ((ji21) : Int) := of_decide_eq_true (by first | (with_reducible assumption) | assumption)
                                have q611 : (ji21) < (x3_2.length : Int) := of_decide_eq_true (by first | (with_reducible assumption) | assumption)
                                obtain ⟨ad611, e611, hx611_0⟩ := Kd.at_int (Kd.R_reads' HO_3.out).2.2 (ji21) p611 q611
                                cases e611
                                replace p611 := eq_true p611
                                replace q611 := eq_true q611
                                have p612 : 0 ≤ ((ji24) : Int) := of_decide_eq_true (by first | (with_reducible assumption) | assumption)
                                have q612 : (ji24) < (x3_2.length : Int) := of_decide_eq_true (by first | (with_reducible assumption) | assumption)
                                obtain ⟨ad612, e612, hx612_0⟩ := Kd.at_int (Kd.R_reads' HO_3.out).2.2 (ji24) p612 q612
                                obtain rfl : ad611 = ad612 := (by injection e612)
                                replace p612 := eq_true p612
                                replace q612 := eq_true q612
                                try go_wp2_with (first | ((with_reducible refine gate_callee (f := 177) rfl ?_); refine goesL_ (some 66) rfl rfl Try.func177 (by kernel_rfl) rfl #[.int .i64 (rd x3_2 (ji21)), .int .i64 7] rfl (by (try simp only [List.map_toArray, List.map_cons, List.map_nil]); first | done | (simp only [hji21]; rfl) | rfl | (simp only [List.length_drop, List.length_take]; rfl)) ?_; (with_reducible refine (spec_l2Turn.calls (rd x3_2 (ji21)) 7 t613 _ A27.out).mono ?_); rintro e w' ⟨rfl, ⟨nd, rfl⟩⟩; refine ⟨_, rfl, ?_⟩) | ((with_reducible refine gate_callee (f := 177) rfl ?_); refine goesL_ (some 68) rfl rfl Try.func177 (by kernel_rfl) rfl #[.int .i64 (rd x3_2 (ji21)), .int .i64 18] rfl (by (try simp only [List.map_toArray, List.map_cons, List.map_nil]); first | done | (simp only [hji21]; rfl) | rfl | (simp only [List.length_drop, List.length_take]; rfl)) ?_; (with_reducible refine (spec_l2Turn.calls (rd x3_2 (ji21)) 18 t614 _ A28.out).mono ?_); rintro e w' ⟨rfl, ⟨nd, rfl⟩⟩; refine ⟨_, rfl, ?_⟩) | ((with_reducible refine gate_callee (f := 177) rfl ?_); refine goesL_ (some 74) rfl rfl Try.func177 (by kernel_rfl) rfl #[.int .i64 (rd x3_2 (ji24)), .int .i64 17] rfl (by (try simp only [List.map_toArray, List.map_cons, List.map_nil]); first | done | (simp only [hji24]; rfl) | rfl | (simp only [List.length_drop, List.length_take]; rfl)) ?_; (with_reducible refine (spec_l2Turn.calls (rd x3_2 (ji24)) 17 t615 _ A29.out).mono ?_); rintro e w' ⟨rfl, ⟨nd, rfl⟩⟩; refine ⟨_, rfl, ?_⟩) | ((with_reducible refine gate_callee (f := 177) rfl ?_); refine goesL_ (some 76) rfl rfl Try.func177 (by kernel_rfl) rfl #[.int .i64 (rd x3_2 (ji24)), .int .i64 19] rfl (by (try simp only [List.map_toArray, List.map_cons, List.map_nil]); first | done | (simp only [hji24]; rfl) | rfl | (simp only [List.length_drop, List.length_take]; rfl)) ?_; (with_reducible refine (spec_l2Turn.calls (rd x3_2 (ji24)) 19 t616 _ A30.out).mono ?_); rintro e w' ⟨rfl, ⟨nd, rfl⟩⟩; refine ⟨_, rfl, ?_⟩))
                                (try (rw [drewN_self wr]; generalize hq_ : World.drewN wr _ = wr; have n0_ : Aside0 (Kd.R (Kd.int .i64) 3 wr w.heap.size (fun _ => True) (.slice (some ad611) x3_2.length co38) x3_2) := ⟨by rw [← hq_]; exact (by (with_reducible repeat (first | apply Kd.R_alloc | apply Kd.R_drewN | apply Kd.R_drew)); exact HO_3.out)⟩; have n1_ : Aside0 (Below w.heap.size w wr) := ⟨by rw [← hq_]; exact (by repeat (first | (with_reducible first | exact HB.out | apply below_alloc | apply pw_below_drewN | apply below_drew1) | exact HB.out))⟩; clear HO_3 HB hq_; have HO_3 := n0_; have HB := n1_; clear n0_ n1_))
                                have n0_ := Aside0.mk (Kd.R_drew HO_3.out)
                                have n1_ := Aside0.mk (below_drew1 HB.out)
                                clear HO_3
                                clear HB
                                have HO_3 := n0_
                                have HB := n1_
                                clear n0_ n1_
                                have p617 : 0 ≤ ((ji31) : Int) := of_decide_eq_true (by first | (with_reducible assumption) | assumption)
                                have q617 : (ji31) < (x3_2.length : Int) := of_decide_eq_true (by first | (with_reducible assumption) | assumption)
                                obtain ⟨ad617, e617, hx617_0⟩ := Kd.at_int (Kd.R_reads' HO_3.out).2.2 (ji31) p617 q617
                                obtain rfl : ad611 = ad617 := (by injection e617)
                                replace p617 := eq_true p617
                                replace q617 := eq_true q617
                                have p618 : 0 ≤ ((ji34) : Int) := of_decide_eq_true (by first | (with_reducible assumption) | assumption)
                                have q618 : (ji34) < (x3_2.length : Int) := of_decide_eq_true (by first | (with_reducible assumption) | assumption)
                                obtain ⟨ad618, e618, hx618_0⟩ := Kd.at_int (Kd.R_reads' HO_3.out).2.2 (ji34) p618 q618
                                obtain rfl : ad611 = ad618 := (by injection e618)
                                replace p618 := eq_true p618
                                replace q618 := eq_true q618
                                refine start_ (n := 20) (S := fun w' => w'.cell? (ad611.add ((ji31)).toNat) = some (.int .i64 (rd x3_2 (ji31))) ∧ w'.cell? (ad611.add ((ji34)).toNat) = some (.int .i64 (rd x3_2 (ji34)))) (ds := [17, 18]) #[false, false, false, false, false, false, false, false, false, false, false, false, false, false, false, false, false, false, false, false] (by kernel_rfl) rfl rfl ⟨hx617_0, hx618_0⟩ (fun hHeld => ?_); refine with_tabW spec_l2Words.tab13 spec_l2Words.bits13 (fun HT_ HW_ => ?_)
                                generalize wr.drew = w39 at HO_3 HB hx617_0 hx618_0 hHeld ⊢
                                refine pure_ (i := 0) (N := some 81) (v := ?_) (a' := ?_) #[true, false, false, false, false, false, false, false, false, false, false, false, false, false, false, false, false, false, false, false] rfl rfl (any_of HT_.out (by kernel_rfl)) (fun _ _ _ h => h) (Or.inl ⟨by rfl, ?_⟩) ?_ ?_
                                rotate_left
                                · intro w'
                                  go_simp
                                  with_reducible rfl
                                rotate_left
                                · simp only [Act.put, List.setIfInBounds_toArray, List.set_cons_zero, List.set_cons_succ, i64_w, i32_w]
                                  rfl
                                refine pure_ (i := 1) (N := some 82) (v := ?_) (a' := ?_) #[true, true, false, false, false, false, false, false, false, false, false, false, false, false, false, false, false, false, false, false] rfl rfl (any_of HT_.out (by kernel_rfl)) (fun _ _ _ h => h) (Or.inl ⟨by rfl, ?_⟩) ?_ ?_
                                rotate_left
                                · intro w'
                                  go_simp
                                  with_reducible rfl
                                rotate_left
                                · simp only [Act.put, List.setIfInBounds_toArray, List.set_cons_zero, List.set_cons_succ, i64_w, i32_w]
                                  rfl
                                refine pure_ (i := 2) (N := some 83) (v := ?_) (a' := ?_) #[true, true, true, false, false, false, false, false, false, false, false, false, false, false, false, false, false, false, false, false] rfl rfl (any_of HT_.out (by kernel_rfl)) (fun _ _ _ h => h) (Or.inl ⟨by rfl, ?_⟩) ?_ ?_
                                rotate_left
                                · intro w'
                                  go_simp
                                  with_reducible rfl
                                rotate_left
                                · simp only [Act.put, List.setIfInBounds_toArray, List.set_cons_zero, List.set_cons_succ, i64_w, i32_w]
                                  rfl
                                refine pure_ (i := 3) (N := some 84) (v := ?_) (a' := ?_) #[true, true, true, true, false, false, false, false, false, false, false, false, false, false, false, false, false, false, false, false] rfl rfl (any_of HT_.out (by kernel_rfl)) (fun _ _ _ h => h) (Or.inl ⟨by rfl, ?_⟩) ?_ ?_
                                rotate_left
                                · intro w'
                                  go_simp
                                  with_reducible rfl
                                rotate_left
                                · simp only [Act.put, List.setIfInBounds_toArray, List.set_cons_zero, List.set_cons_succ, i64_w, i32_w]
                                  rfl
                                refine pure_ (i := 4) (N := some 85) (v := ?_) (a' := ?_) #[true, true, true, true, true, false, false, false, false, false, false, false, false, false, false, false, false, false, false, false] rfl rfl (any_of HT_.out (by kernel_rfl)) (fun _ _ _ h => h) (Or.inl ⟨by rfl, ?_⟩) ?_ ?_
                                rotate_left
                                · intro w'
                                  go_simp
                                  with_reducible rfl
                                rotate_left
                                · simp only [Act.put, List.setIfInBounds_toArray, List.set_cons_zero, List.set_cons_succ, i64_w, i32_w]
                                  rfl
                                refine pure_ (i := 6) (N := some 87) (v := ?_) (a' := ?_) #[true, true, true, true, true, false, true, false, false, false, false, false, false, false, false, false, false, false, false, false] rfl rfl (any_of HT_.out (by kernel_rfl)) (fun _ _ _ h => h) (Or.inl ⟨by rfl, ?_⟩) ?_ ?_
                                rotate_left
                                · intro w'
                                  go_simp
                                  with_reducible rfl
                                rotate_left
                                · simp only [Act.put, List.setIfInBounds_toArray, List.set_cons_zero, List.set_cons_succ, i64_w, i32_w]
                                  rfl
                                refine pure_ (i := 8) (N := some 89) (v := ?_) (a' := ?_) #[true, true, true, true, true, false, true, false, true, false, false, false, false, false, false, false, false, false, false, false] rfl rfl (any_of HT_.out (by kernel_rfl)) (fun _ _ _ h => h) (Or.inl ⟨by rfl, ?_⟩) ?_ ?_
                                rotate_left
                                · intro w'
                                  go_simp
                                  with_reducible rfl
                                rotate_left
                                · simp only [Act.put, List.setIfInBounds_toArray, List.set_cons_zero, List.set_cons_succ, i64_w, i32_w]
                                  rfl
                                refine pure_ (i := 9) (N := some 90) (v := ?_) (a' := ?_) #[true, true, true, true, true, false, true, false, true, true, false, false, false, false, false, false, false, false, false, false] rfl rfl (any_of HT_.out (by kernel_rfl)) (fun _ _ _ h => h) (Or.inl ⟨by rfl, ?_⟩) ?_ ?_
                                rotate_left
                                · intro w'
                                  go_simp
                                  with_reducible rfl
                                rotate_left
                                · simp only [Act.put, List.setIfInBounds_toArray, List.set_cons_zero, List.set_cons_succ, i64_w, i32_w]
                                  rfl
                                refine pure_ (i := 10) (N := some 91) (v := ?_) (a' := ?_) #[true, true, true, true, true, false, true, false, true, true, true, false, false, false, false, false, false, false, false, false] rfl rfl (any_of HT_.out (by kernel_rfl)) (fun _ _ _ h => h) (Or.inl ⟨by rfl, ?_⟩) ?_ ?_
                                rotate_left
                                · intro w'
                                  go_simp
                                  with_reducible rfl
                                rotate_left
                                · simp only [Act.put, List.setIfInBounds_toArray, List.set_cons_zero, List.set_cons_succ, i64_w, i32_w]
                                  rfl
                                refine pure_ (i := 11) (N := some 92) (v := ?_) (a' := ?_) #[true, true, true, true, true, false, true, false, true, true, true, true, false, false, false, false, false, false, false, false] rfl rfl (any_of HT_.out (by kernel_rfl)) (fun _ _ _ h => h) (Or.inl ⟨by rfl, ?_⟩) ?_ ?_
                                rotate_left
                                · intro w'
                                  go_simp
                                  with_reducible rfl
                                rotate_left
                                · simp only [Act.put, List.setIfInBounds_toArray, List.set_cons_zero, List.set_cons_succ, i64_w, i32_w]
                                  rfl
                                refine pure_ (i := 14) (N := some 95) (v := ?_) (a' := ?_) #[true, true, true, true, true, false, true, false, true, true, true, true, false, false, true, false, false, false, false, false] rfl rfl (any_of HT_.out (by kernel_rfl)) (fun _ _ _ h => h) (Or.inl ⟨by rfl, ?_⟩) ?_ ?_
                                rotate_left
                                · intro w'
                                  go_simp
                                  with_reducible rfl
                                rotate_left
                                · simp only [Act.put, List.setIfInBounds_toArray, List.set_cons_zero, List.set_cons_succ, i64_w, i32_w]
                                  rfl
                                refine take_ (i := 5) (N := some 86) (v := ?_) (a' := ?_) #[true, true, true, true, true, true, true, false, true, true, true, true, false, false, true, false, false, false, false, false] rfl rfl (take_ofW HT_.out HW_.out (by kernel_rfl)) (fun _ _ _ h => h) (Or.inl ⟨by rfl, ?_⟩) hHeld ?_ ?_
                                rotate_left
                                · rintro w' ⟨s0, s1⟩
                                  go_simp
                                  with_reducible rfl
                                rotate_left
                                · simp only [Act.put, List.setIfInBounds_toArray, List.set_cons_zero, List.set_cons_succ, i64_w, i32_w]
                                  rfl
                                refine pure_ (i := 7) (N := some 88) (v := ?_) (a' := ?_) #[true, true, true, true, true, true, true, true, true, true, true, true, false, false, true, false, false, false, false, false] rfl rfl (any_of HT_.out (by kernel_rfl)) (fun _ _ _ h => h) (Or.inl ⟨by rfl, ?_⟩) ?_ ?_
                                rotate_left
                                · intro w'
                                  go_simp
                                  with_reducible rfl
                                rotate_left
                                · simp only [Act.put, List.setIfInBounds_toArray, List.set_cons_zero, List.set_cons_succ, i64_w, i32_w]
                                  rfl
                                refine take_ (i := 12) (N := some 93) (v := ?_) (a' := ?_) #[true, true, true, true, true, true, true, true, true, true, true, true, true, false, true, false, false, false, false, false] rfl rfl (take_ofW HT_.out HW_.out (by kernel_rfl)) (fun _ _ _ h => h) (Or.inl ⟨by rfl, ?_⟩) hHeld ?_ ?_
                                rotate_left
                                · rintro w' ⟨s0, s1⟩
                                  go_simp
                                  with_reducible rfl
                                rotate_left
                                · simp only [Act.put, List.setIfInBounds_toArray, List.set_cons_zero, List.set_cons_succ, i64_w, i32_w]
                                  rfl
                                refine pure_ (i := 13) (N := some 94) (v := ?_) (a' := ?_) #[true, true, true, true, true, true, true, true, true, true, true, true, true, true, true, false, false, false, false, false] rfl rfl (any_of HT_.out (by kernel_rfl)) (fun _ _ _ h => h) (Or.inl ⟨by rfl, ?_⟩) ?_ ?_
                                rotate_left
                                · intro w'
                                  go_simp
                                  with_reducible rfl
                                rotate_left
                                · simp only [Act.put, List.setIfInBounds_toArray, List.set_cons_zero, List.set_cons_succ, i64_w, i32_w]
                                  rfl
                                refine pure_ (i := 15) (N := some 96) (v := ?_) (a' := ?_) #[true, true, true, true, true, true, true, true, true, true, true, true, true, true, true, true, false, false, false, false] rfl rfl (any_of HT_.out (by kernel_rfl)) (fun _ _ _ h => h) (Or.inl ⟨by rfl, ?_⟩) ?_ ?_
                                rotate_left
                                · intro w'
                                  go_simp
                                  with_reducible rfl
                                rotate_left
                                · simp only [Act.put, List.setIfInBounds_toArray, List.set_cons_zero, List.set_cons_succ, i64_w, i32_w]
                                  rfl
                                refine pure_ (i := 16) (N := some 97) (v := ?_) (a' := ?_) #[true, true, true, true, true, true, true, true, true, true, true, true, true, true, true, true, true, false, false, false] rfl rfl (any_of HT_.out (by kernel_rfl)) (fun _ _ _ h => h) (Or.inl ⟨by rfl, ?_⟩) ?_ ?_
                                rotate_left
                                · intro w'
                                  go_simp
                                  with_reducible rfl
                                rotate_left
                                · simp only [Act.put, List.setIfInBounds_toArray, List.set_cons_zero, List.set_cons_succ, i64_w, i32_w]
                                  rfl
                                refine last_ (i := 17) (N := some 98) #[true, true, true, true, true, true, true, true, true, true, true, true, true, true, true, true, true, true, false, false] rfl rfl (one_of HT_.out (by kernel_rfl)) (by decide) (fun K hK => ?_)
                                refine value_ (w1 := ?_) (v := ?_) (by rfl) rfl ?_ ?_
                                rotate_left 2
                                · go_simp
                                  constructor
                                  · rfl
                                  · rfl
                                refine hK.out _ _ ?_
                                clear hK K
                                refine norm_ (a' := ?_) ?_ ?_
                                rotate_left
                                · show Act.put _ (some 98) _ = _
                                  simp only [Act.put, List.setIfInBounds_toArray, List.set_cons_zero, List.set_cons_succ, i64_w, i32_w]
                                  rfl
                                refine last_ (i := 18) (N := some 99) #[true, true, true, true, true, true, true, true, true, true, true, true, true, true, true, true, true, true, true, false] rfl rfl (one_of HT_.out (by kernel_rfl)) (by decide) (fun K hK => ?_)
                                refine Kd.R_append_step (Kd.int .i64) (w0 := w) w.heap.size (by rfl) (.tmp 81) (.tmp 98) 136 3 (.int .i64 0) 8 rfl Try.underlying136 info3 rfl (by decide) (by omega) (.slice (some ad611) x3_2.length co38) x3_2 (Go.bits .and .i64 (wrap64 ((wrap64 ((wrap64 ((rd x3_2 (ji31)) + (Go.bits .xor .i64 (Go.bits .xor .i64 t613 t614) ((rd x3_2 (ji21)) / 8)))) + (rd x3_2 (ji34)))) + (Go.bits .xor .i64 (Go.bits .xor .i64 t615 t616) ((rd x3_2 (ji24)) / 1024)))) 4294967295) [.int .i64 (Go.bits .and .i64 (wrap64 ((wrap64 ((wrap64 ((rd x3_2 (ji31)) + (Go.bits .xor .i64 (Go.bits .xor .i64 t613 t614) ((rd x3_2 (ji21)) / 8)))) + (rd x3_2 (ji34)))) + (Go.bits .xor .i64 (Go.bits .xor .i64 t615 t616) ((rd x3_2 (ji24)) / 1024)))) 4294967295)] (fun _ => True) (fun _ => False) rfl rfl ?aP (fun _ hk => hk.elim) ?aF ?aO ?aB ?aS ?aL ?_
                                (case aP => exact rfl)
                                (case aB => exact (by repeat (first | (with_reducible first | exact HB.out | apply below_alloc | apply pw_below_drewN | apply below_drew1) | exact HB.out)))
                                (case aF => exact (fun _ _ => trivial))
                                (case aO => exact (by (with_reducible repeat (first | apply Kd.R_alloc | apply Kd.R_drewN | apply Kd.R_drew)); exact HO_3.out))
                                (case aS => exact (below_size (by repeat (first | (with_reducible first | exact HB.out | apply below_alloc | apply pw_below_drewN | apply below_drew1) | exact HB.out))))
                                (case aL => have := LMc37.out; omega)
                                intro v620 w40 ho hb hg hat
                                rw [← Ny619.out] at ho
                                have n0_ := Aside0.mk (hb)
                                have n1_ := Aside0.mk (ho)
                                clear HB
                                clear HO_3
                                have HB := n0_
                                have HO621 := n1_
                                clear n0_ n1_
                                clear ho hb hg hat
                                refine hK.out _ _ ?_
                                clear hK K
                                refine norm_ (a' := ?_) ?_ ?_
                                rotate_left
                                · show Act.put _ (some 99) _ = _
                                  simp only [Act.put, List.setIfInBounds_toArray, List.set_cons_zero, List.set_cons_succ, i64_w, i32_w]
                                  rfl
                                refine pure_ (i := 19) (N := some 3) (v := ?_) (a' := ?_) #[true, true, true, true, true, true, true, true, true, true, true, true, true, true, true, true, true, true, true, true] rfl rfl (any_of HT_.out (by kernel_rfl)) (fun _ _ _ h => h) (Or.inl ⟨by rfl, ?_⟩) ?_ ?_
                                rotate_left
                                · intro w'
                                  go_simp
                                  with_reducible rfl
                                rotate_left
                                · simp only [Act.put, List.setIfInBounds_toArray, List.set_cons_zero, List.set_cons_succ, i64_w, i32_w]
                                  rfl
                                refine done_ (done_of HT_.out (by kernel_rfl)) ?_
                                try go_wp2
                                go_roundg k2
                                case measure => have := HK1.out; have := HK2.out; omega
                                case rel => exact ⟨(y619), (wrap64 (x5_2 + 1)), (by first | rfl | (simp; done) | (simp [*]; done)), H', ⟨by have := HK1.out; have := HK2.out; omega⟩, ⟨by (with_reducible repeat (first | apply Kd.R_alloc | apply Kd.R_drewN | apply Kd.R_drew)); exact HO621.out⟩, ⟨by repeat (first | (with_reducible first | exact HB.out | apply below_alloc | apply pw_below_drewN | apply below_drew1) | exact HB.out)⟩⟩
                              · rw [if_neg c37] at H
                                exact absurd H (by simp)
                            · rw [if_neg c36] at H
                              exact absurd H (by simp)
                          · rw [if_neg c35] at H
                            exact absurd H (by simp)
                        · rw [if_neg c33] at H
                          exact absurd H (by simp)
                      · rw [if_neg c32] at H
                        exact absurd H (by simp)
                    · rw [if_neg c26] at H
                      exact absurd H (by simp)
                  · rw [if_neg c25] at H
                    exact absurd H (by simp)
                · rw [if_neg c23] at H
                  exact absurd H (by simp)
              · rw [if_neg c22] at H
                exact absurd H (by simp)
            · rw [if_neg c20] at H
              have c20b0 : decide (x5_2 < 64) = false := decide_eq_false c20
              clear c20
              obtain rfl := Option.some.inj H
              go_wp2
              go_ret
              exact ⟨_, by first | rfl | (simp [errW_none, errW_some] <;> rfl) | (simp [*, errW_none, errW_some] <;> rfl), by (with_reducible repeat (first | apply Kd.R_alloc | apply Kd.R_drewN | apply Kd.R_drew)); exact HO_3.out, by repeat (first | (with_reducible first | exact HB.out | apply below_alloc | apply pw_below_drewN | apply below_drew1) | exact HB.out)⟩

end Go.Proofs.Ytoipfpjcpngpfaa.Q
end
